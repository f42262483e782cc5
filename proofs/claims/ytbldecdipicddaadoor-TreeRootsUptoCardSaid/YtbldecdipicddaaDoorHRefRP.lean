/- The reference's Check, Root and Prove, by what they call. Written by wip/s1/mkrefrp.py. -/
import Derived.Test.YtbldecdipicddaaDoorDgApp
import Derived.Test.YtbldecdipicddaaDoorHLeaves
set_option linter.unusedSimpArgs false
set_option linter.unusedVariables false
namespace Go.Proofs.YtbldecdipicddaaDoor.Hand
open Go Go.RowKit Go.Proofs.YtbldecdipicddaaDoorW.PrintWords Go.Proofs.YtbldecdipicddaaDoorW.PrintLast
set_option maxHeartbeats 1600000 in
set_option maxRecDepth 100000 in
theorem check_many (A : Option Addr) (n c : Nat) (w : World) (hn : 600 < n) : Calls Tryd.prog 86 #[.slice A n c] w fun e w' => e = .returned (.int .i64 4) ∧ w' = w := by
  have t1 : (600 < ((n : Nat) : Int)) = True := eq_true (by omega)
  go_enter Tryd.func86, Tryd.ntmps86
  go_wp2_with fail
  go_ret
  exact ⟨rfl, rfl⟩
set_option maxHeartbeats 1600000 in
set_option maxRecDepth 100000 in
theorem check_few (A : Option Addr) (c : Nat) (ll : List (List Int)) (w : World) (hr : Kd.C (Kd.slice 5 (Kd.int .u8)) w A ll.length ll) (hl : ll.length ≤ 600) (q : Int) (q1 : ll.any long = true → q = 4) (q2 : ll.any long = false → q = 0) : Calls Tryd.prog 86 #[.slice A ll.length c] w fun e w' => e = .returned (.int .i64 q) ∧ w' = w := by
  have t1 : (600 < ((ll.length : Nat) : Int)) = False := eq_false (by omega)
  have Hhr := Aside0.mk hr
  have Hhl := Aside0.mk hl
  have Hq1 := Aside0.mk q1
  have Hq2 := Aside0.mk q2
  clear hr hl q1 q2
  go_enter Tryd.func86, Tryd.ntmps86
  go_wp2_with fail
  go_loopg [3] ll.length (fun n v3 w' => ∃ k : Nat, v3 = .int .i64 (k : Int) ∧ Aside0 (k + n = ll.length) ∧ Aside0 (∀ j, j < k → long (ll.getD j []) = false) ∧ Aside0 (w' = w))
  case atStart => exact ⟨0, rfl, ⟨by omega⟩, ⟨fun j hlt => absurd hlt (by omega)⟩, ⟨rfl⟩⟩
  case round =>
    obtain ⟨k, rfl, HK, HJ, HW⟩ := hrel
    obtain rfl := HW.out
    by_cases hk : k < ll.length
    · obtain ⟨go, rfl⟩ : ∃ j, gk = j + 1 := ⟨gk - 1, by have := HK.out; omega⟩
      have hi1 : ((k : Int) < ((ll.length : Nat) : Int)) = True := eq_true (by omega)
      have hi2 : (k < ll.length) = True := eq_true hk
      have hi3 : (0 ≤ (k : Int)) = True := eq_true (by omega)
      have u1 : wrap64 ((k : Int) + 1) = ((k + 1 : Nat) : Int) := by have := Hhl.out; unfold wrap64; omega
      obtain ⟨i2, hi2'⟩ : ∃ x : Nat, x = k + 1 := ⟨_, rfl⟩
      rw [← hi2'] at u1
      have HI2 := Aside0.mk hi2'
      have HI := Aside0.mk hk
      obtain ⟨ad, rfl, hx_⟩ : ∃ ad, A = some ad ∧ True := by obtain ⟨ad, e, _⟩ := Hhr.out.2.2 (by omega); exact ⟨ad, e, trivial⟩
      clear hx_ hk hi2'
      obtain ⟨Ai, ci, hcell, hle_, hC_⟩ := rows_get Hhr.out k HI.out
      obtain ⟨x, hx⟩ : ∃ x : List Int, x = ll.getD k [] := ⟨_, rfl⟩
      have HX0 := Aside0.mk hx
      rw [← hx] at hcell hle_ hC_
      clear hC_ hle_ hx
      by_cases hb : 10000 < x.length
      · have HB : Aside0 (long x = true) := ⟨decide_eq_true hb⟩
        have b1 : (10000 < ((x.length : Nat) : Int)) = True := eq_true (by omega)
        clear hb
        go_wp2_with fail
        go_ret
        refine ⟨?_, rfl⟩
        rw [Hq1.out (List.any_eq_true.2 ⟨x, by rw [HX0.out, List.getD_eq_getElem?_getD, List.getElem?_eq_getElem HI.out]; exact List.getElem_mem _, HB.out⟩)]
        rfl
      · have HB : Aside0 (long x = false) := ⟨decide_eq_false hb⟩
        have b1 : (10000 < ((x.length : Nat) : Int)) = False := eq_false (by omega)
        clear hb
        go_wp2_with fail
        go_roundg go
        case measure => have := HK.out; omega
        case rel =>
          refine ⟨i2, (by first | rfl | rw [u1]), ⟨by have := HK.out; have := HI2.out; omega⟩, ⟨fun j hlt => ?_⟩, ⟨rfl⟩⟩
          by_cases h : j = k
          · subst h; rw [← HX0.out]; exact HB.out
          · exact HJ.out j (by have := HI2.out; omega)
    · have hi1 : ((k : Int) < ((ll.length : Nat) : Int)) = False := eq_false (by omega)
      have HN := Aside0.mk hk
      clear hk
      go_wp2_with fail
      go_ret
      refine ⟨?_, rfl⟩
      have ha : ll.any long = false := by
        rw [List.any_eq_false]
        intro x hx
        obtain ⟨j, hj, rfl⟩ := List.mem_iff_getElem.1 hx
        have := HJ.out j (by have := HN.out; omega)
        rw [List.getD_eq_getElem?_getD, List.getElem?_eq_getElem hj] at this
        exact Bool.eq_false_iff.1 this
      rw [Hq2.out ha]
      rfl
set_option maxHeartbeats 1600000 in
set_option maxRecDepth 100000 in
theorem rRoot_err (A : Option Addr) (N c : Nat) (w : World) (hck : ∀ W : World, Below w.heap.size w W → Calls Tryd.prog 86 #[.slice A N c] W fun e w' => e = .returned (.int .i64 4) ∧ Below W.heap.size W w') : Calls Tryd.prog 61 #[.slice A N c] w fun e w' => e = .returned (.tuple #[.agg #[.int .u8 0, .int .u8 0, .int .u8 0, .int .u8 0, .int .u8 0, .int .u8 0, .int .u8 0, .int .u8 0, .int .u8 0, .int .u8 0, .int .u8 0, .int .u8 0, .int .u8 0, .int .u8 0, .int .u8 0, .int .u8 0, .int .u8 0, .int .u8 0, .int .u8 0, .int .u8 0], .int .i64 4]) ∧ Below w.heap.size w w' := by
  have Hhck := Aside0.mk hck
  clear hck
  go_enter Tryd.func61, Tryd.ntmps61
  go_wp2_with (first | ((with_reducible refine gate_dst (N := 2) rfl ?_); refine box_event ?hg (N := 2) ?hd (cs := #[.int .u8 0, .int .u8 0, .int .u8 0, .int .u8 0, .int .u8 0, .int .u8 0, .int .u8 0, .int .u8 0, .int .u8 0, .int .u8 0, .int .u8 0, .int .u8 0, .int .u8 0, .int .u8 0, .int .u8 0, .int .u8 0, .int .u8 0, .int .u8 0, .int .u8 0, .int .u8 0]) (t := 23) ?hr ?_; (case hd => rfl); (case hg => rfl); (case hr => first | (go_simp; done) | (go_simp; rfl)); intro g1 hgg1 w2 hhg1 hbg1; have H5 := Aside0.mk hhg1; have G3 : w.heap.size ≤ g1 := Nat.le_of_eq hgg1.symm; have B4 := Aside0.mk (hbg1); clear hgg1 hhg1 hbg1))
  refine (Hhck.out w2 B4.out).mono ?_
  rintro e w6 ⟨rfl, hb_⟩
  have B7 := Aside0.mk (below_step B4.out hb_)
  have H8 := Aside0.mk (blk_below H5.out hb_)
  clear hb_ B4 H5
  go_wp2_with (first | ((with_reducible refine gate_store (t := 23) (p := _) rfl ?_); refine storeN_event (T := 23) rfl rfl rfl rfl rfl (storeVar_blk H8.out 23 0 [.int .u8 0, .int .u8 0, .int .u8 0, .int .u8 0, .int .u8 0, .int .u8 0, .int .u8 0, .int .u8 0, .int .u8 0, .int .u8 0, .int .u8 0, .int .u8 0, .int .u8 0, .int .u8 0, .int .u8 0, .int .u8 0, .int .u8 0, .int .u8 0, .int .u8 0, .int .u8 0] (by kernel_rfl) rfl (by simp)) ?_; have H10 := Aside0.mk (show (World.setCells w6 g1 0 [.int .u8 0, .int .u8 0, .int .u8 0, .int .u8 0, .int .u8 0, .int .u8 0, .int .u8 0, .int .u8 0, .int .u8 0, .int .u8 0, .int .u8 0, .int .u8 0, .int .u8 0, .int .u8 0, .int .u8 0, .int .u8 0, .int .u8 0, .int .u8 0, .int .u8 0, .int .u8 0]).heap[g1]? = some (.cells #[.int .u8 0, .int .u8 0, .int .u8 0, .int .u8 0, .int .u8 0, .int .u8 0, .int .u8 0, .int .u8 0, .int .u8 0, .int .u8 0, .int .u8 0, .int .u8 0, .int .u8 0, .int .u8 0, .int .u8 0, .int .u8 0, .int .u8 0, .int .u8 0, .int .u8 0, .int .u8 0] 23 (0, 0)) from blk_setCells [] [.int .u8 0, .int .u8 0, .int .u8 0, .int .u8 0, .int .u8 0, .int .u8 0, .int .u8 0, .int .u8 0, .int .u8 0, .int .u8 0, .int .u8 0, .int .u8 0, .int .u8 0, .int .u8 0, .int .u8 0, .int .u8 0, .int .u8 0, .int .u8 0, .int .u8 0, .int .u8 0] [.int .u8 0, .int .u8 0, .int .u8 0, .int .u8 0, .int .u8 0, .int .u8 0, .int .u8 0, .int .u8 0, .int .u8 0, .int .u8 0, .int .u8 0, .int .u8 0, .int .u8 0, .int .u8 0, .int .u8 0, .int .u8 0, .int .u8 0, .int .u8 0, .int .u8 0, .int .u8 0] [] w6 rfl H8.out); have B11 := Aside0.mk (below_setCells G3 [.int .u8 0, .int .u8 0, .int .u8 0, .int .u8 0, .int .u8 0, .int .u8 0, .int .u8 0, .int .u8 0, .int .u8 0, .int .u8 0, .int .u8 0, .int .u8 0, .int .u8 0, .int .u8 0, .int .u8 0, .int .u8 0, .int .u8 0, .int .u8 0, .int .u8 0, .int .u8 0] 0 w6 B7.out); clear H8 B7; generalize World.setCells w6 g1 0 [.int .u8 0, .int .u8 0, .int .u8 0, .int .u8 0, .int .u8 0, .int .u8 0, .int .u8 0, .int .u8 0, .int .u8 0, .int .u8 0, .int .u8 0, .int .u8 0, .int .u8 0, .int .u8 0, .int .u8 0, .int .u8 0, .int .u8 0, .int .u8 0, .int .u8 0, .int .u8 0] = w9 at H10 B11 ⊢))
  exact bodyPost_ret (results_ct rfl _ _ g1 23 #[.int .u8 0, .int .u8 0, .int .u8 0, .int .u8 0, .int .u8 0, .int .u8 0, .int .u8 0, .int .u8 0, .int .u8 0, .int .u8 0, .int .u8 0, .int .u8 0, .int .u8 0, .int .u8 0, .int .u8 0, .int .u8 0, .int .u8 0, .int .u8 0, .int .u8 0, .int .u8 0] (0, 0) _ rfl H10.out Tryd.underlying23 rfl (by kernel_rfl)) rfl ⟨rfl, B11.out⟩
set_option maxHeartbeats 1600000 in
set_option maxRecDepth 100000 in
theorem rRoot_ok (A : Option Addr) (N c : Nat) (ds : List Dg) (r : Dg) (w : World) (hck : ∀ W : World, Below w.heap.size w W → Calls Tryd.prog 86 #[.slice A N c] W fun e w' => e = .returned (.int .i64 0) ∧ Below W.heap.size W w') (hds : ∀ W : World, Below w.heap.size w W → Calls Tryd.prog 88 #[.slice A N c] W fun e w' => ∃ v0_ : Value, e = .returned v0_ ∧ Kd.R kdg 23 w' W.heap.size (fun _ => True) v0_ ds ∧ Below W.heap.size W w') (hrt : ∀ (A1 : Option Addr) (c1 : Nat) (W : World), Kd.C kdg W A1 ds.length ds → ds.length ≤ c1 → Calls Tryd.prog 87 #[.slice A1 ds.length c1] W fun e w' => e = .returned (.agg #[.int .u8 (r 0), .int .u8 (r 1), .int .u8 (r 2), .int .u8 (r 3), .int .u8 (r 4), .int .u8 (r 5), .int .u8 (r 6), .int .u8 (r 7), .int .u8 (r 8), .int .u8 (r 9), .int .u8 (r 10), .int .u8 (r 11), .int .u8 (r 12), .int .u8 (r 13), .int .u8 (r 14), .int .u8 (r 15), .int .u8 (r 16), .int .u8 (r 17), .int .u8 (r 18), .int .u8 (r 19)]) ∧ Below W.heap.size W w') : Calls Tryd.prog 61 #[.slice A N c] w fun e w' => e = .returned (.tuple #[.agg #[.int .u8 (r 0), .int .u8 (r 1), .int .u8 (r 2), .int .u8 (r 3), .int .u8 (r 4), .int .u8 (r 5), .int .u8 (r 6), .int .u8 (r 7), .int .u8 (r 8), .int .u8 (r 9), .int .u8 (r 10), .int .u8 (r 11), .int .u8 (r 12), .int .u8 (r 13), .int .u8 (r 14), .int .u8 (r 15), .int .u8 (r 16), .int .u8 (r 17), .int .u8 (r 18), .int .u8 (r 19)], .int .i64 0]) ∧ Below w.heap.size w w' := by
  have Hhck := Aside0.mk hck
  have Hhds := Aside0.mk hds
  have Hhrt := Aside0.mk hrt
  clear hck hds hrt
  go_enter Tryd.func61, Tryd.ntmps61
  go_wp2_with (first | ((with_reducible refine gate_dst (N := 2) rfl ?_); refine box_event ?hg (N := 2) ?hd (cs := #[.int .u8 0, .int .u8 0, .int .u8 0, .int .u8 0, .int .u8 0, .int .u8 0, .int .u8 0, .int .u8 0, .int .u8 0, .int .u8 0, .int .u8 0, .int .u8 0, .int .u8 0, .int .u8 0, .int .u8 0, .int .u8 0, .int .u8 0, .int .u8 0, .int .u8 0, .int .u8 0]) (t := 23) ?hr ?_; (case hd => rfl); (case hg => rfl); (case hr => first | (go_simp; done) | (go_simp; rfl)); intro g1 hgg1 w2 hhg1 hbg1; have H5 := Aside0.mk hhg1; have G3 : w.heap.size ≤ g1 := Nat.le_of_eq hgg1.symm; have B4 := Aside0.mk (hbg1); clear hgg1 hhg1 hbg1))
  refine (Hhck.out w2 B4.out).mono ?_
  rintro e w6 ⟨rfl, hb_⟩
  have B7 := Aside0.mk (below_step B4.out hb_)
  have H8 := Aside0.mk (blk_below H5.out hb_)
  clear hb_ B4 H5
  go_wp2_with fail
  refine (Hhds.out w6 B7.out).mono ?_
  rintro e w9 ⟨vr_, rfl, hR_, hb_⟩
  have B10 := Aside0.mk (below_step B7.out hb_)
  have H11 := Aside0.mk (blk_below H8.out hb_)
  clear hb_ B7 H8
  obtain ⟨r0, c0, rfl, hle_, hC_⟩ := Kd.R_reads hR_
  have R0 := Aside0.mk hC_
  have L0 := Aside0.mk hle_
  clear hC_ hle_ hR_
  go_wp2_with fail
  refine (Hhrt.out r0 c0 w9 (Kd.C_below R0.out (Below.refl _ _)) L0.out).mono ?_
  rintro e w12 ⟨rfl, hb_⟩
  have B13 := Aside0.mk (below_step B10.out hb_)
  have B14 := Aside0.mk (hb_)
  have H15 := Aside0.mk (blk_below H11.out hb_)
  clear hb_ B10 H11
  go_wp2_with (first | ((with_reducible refine gate_store (t := 23) (p := _) rfl ?_); refine storeN_event (T := 23) rfl rfl rfl rfl rfl (storeVar_blk H15.out 23 0 [.int .u8 (r 0), .int .u8 (r 1), .int .u8 (r 2), .int .u8 (r 3), .int .u8 (r 4), .int .u8 (r 5), .int .u8 (r 6), .int .u8 (r 7), .int .u8 (r 8), .int .u8 (r 9), .int .u8 (r 10), .int .u8 (r 11), .int .u8 (r 12), .int .u8 (r 13), .int .u8 (r 14), .int .u8 (r 15), .int .u8 (r 16), .int .u8 (r 17), .int .u8 (r 18), .int .u8 (r 19)] (by kernel_rfl) rfl (by simp)) ?_; have H17 := Aside0.mk (show (World.setCells w12 g1 0 [.int .u8 (r 0), .int .u8 (r 1), .int .u8 (r 2), .int .u8 (r 3), .int .u8 (r 4), .int .u8 (r 5), .int .u8 (r 6), .int .u8 (r 7), .int .u8 (r 8), .int .u8 (r 9), .int .u8 (r 10), .int .u8 (r 11), .int .u8 (r 12), .int .u8 (r 13), .int .u8 (r 14), .int .u8 (r 15), .int .u8 (r 16), .int .u8 (r 17), .int .u8 (r 18), .int .u8 (r 19)]).heap[g1]? = some (.cells #[.int .u8 (r 0), .int .u8 (r 1), .int .u8 (r 2), .int .u8 (r 3), .int .u8 (r 4), .int .u8 (r 5), .int .u8 (r 6), .int .u8 (r 7), .int .u8 (r 8), .int .u8 (r 9), .int .u8 (r 10), .int .u8 (r 11), .int .u8 (r 12), .int .u8 (r 13), .int .u8 (r 14), .int .u8 (r 15), .int .u8 (r 16), .int .u8 (r 17), .int .u8 (r 18), .int .u8 (r 19)] 23 (0, 0)) from blk_setCells [] [.int .u8 (r 0), .int .u8 (r 1), .int .u8 (r 2), .int .u8 (r 3), .int .u8 (r 4), .int .u8 (r 5), .int .u8 (r 6), .int .u8 (r 7), .int .u8 (r 8), .int .u8 (r 9), .int .u8 (r 10), .int .u8 (r 11), .int .u8 (r 12), .int .u8 (r 13), .int .u8 (r 14), .int .u8 (r 15), .int .u8 (r 16), .int .u8 (r 17), .int .u8 (r 18), .int .u8 (r 19)] [.int .u8 0, .int .u8 0, .int .u8 0, .int .u8 0, .int .u8 0, .int .u8 0, .int .u8 0, .int .u8 0, .int .u8 0, .int .u8 0, .int .u8 0, .int .u8 0, .int .u8 0, .int .u8 0, .int .u8 0, .int .u8 0, .int .u8 0, .int .u8 0, .int .u8 0, .int .u8 0] [] w12 rfl H15.out); have B18 := Aside0.mk (below_setCells G3 [.int .u8 (r 0), .int .u8 (r 1), .int .u8 (r 2), .int .u8 (r 3), .int .u8 (r 4), .int .u8 (r 5), .int .u8 (r 6), .int .u8 (r 7), .int .u8 (r 8), .int .u8 (r 9), .int .u8 (r 10), .int .u8 (r 11), .int .u8 (r 12), .int .u8 (r 13), .int .u8 (r 14), .int .u8 (r 15), .int .u8 (r 16), .int .u8 (r 17), .int .u8 (r 18), .int .u8 (r 19)] 0 w12 B13.out); clear H15 B13; generalize World.setCells w12 g1 0 [.int .u8 (r 0), .int .u8 (r 1), .int .u8 (r 2), .int .u8 (r 3), .int .u8 (r 4), .int .u8 (r 5), .int .u8 (r 6), .int .u8 (r 7), .int .u8 (r 8), .int .u8 (r 9), .int .u8 (r 10), .int .u8 (r 11), .int .u8 (r 12), .int .u8 (r 13), .int .u8 (r 14), .int .u8 (r 15), .int .u8 (r 16), .int .u8 (r 17), .int .u8 (r 18), .int .u8 (r 19)] = w16 at H17 B18 ⊢))
  exact bodyPost_ret (results_ct rfl _ _ g1 23 #[.int .u8 (r 0), .int .u8 (r 1), .int .u8 (r 2), .int .u8 (r 3), .int .u8 (r 4), .int .u8 (r 5), .int .u8 (r 6), .int .u8 (r 7), .int .u8 (r 8), .int .u8 (r 9), .int .u8 (r 10), .int .u8 (r 11), .int .u8 (r 12), .int .u8 (r 13), .int .u8 (r 14), .int .u8 (r 15), .int .u8 (r 16), .int .u8 (r 17), .int .u8 (r 18), .int .u8 (r 19)] (0, 0) _ rfl H17.out Tryd.underlying23 rfl (by kernel_rfl)) rfl ⟨rfl, B18.out⟩
set_option maxHeartbeats 1600000 in
set_option maxRecDepth 100000 in
theorem rProve_err (A : Option Addr) (N c : Nat) (i : Int) (w : World) (hck : ∀ W : World, Below w.heap.size w W → Calls Tryd.prog 86 #[.slice A N c] W fun e w' => e = .returned (.int .i64 4) ∧ Below W.heap.size W w') : Calls Tryd.prog 62 #[.slice A N c, .int .i64 i] w fun e w' => e = .returned (.tuple #[.slice none 0 0, .int .i64 4]) ∧ Below w.heap.size w w' := by
  have Hhck := Aside0.mk hck
  clear hck
  go_enter Tryd.func62, Tryd.ntmps62
  go_wp2_with fail
  refine (Hhck.out w (Below.refl _ _)).mono ?_
  rintro e w1 ⟨rfl, hb_⟩
  have B2 := Aside0.mk (hb_)
  clear hb_
  go_wp2_with fail
  go_ret2
  exact ⟨rfl, B2.out⟩
set_option maxHeartbeats 1600000 in
set_option maxRecDepth 100000 in
theorem rProve_neg (A : Option Addr) (N c : Nat) (i : Int) (w : World) (hi : i < 0) (hck : ∀ W : World, Below w.heap.size w W → Calls Tryd.prog 86 #[.slice A N c] W fun e w' => e = .returned (.int .i64 0) ∧ Below W.heap.size W w') : Calls Tryd.prog 62 #[.slice A N c, .int .i64 i] w fun e w' => e = .returned (.tuple #[.slice none 0 0, .int .i64 2]) ∧ Below w.heap.size w w' := by
  have Hhck := Aside0.mk hck
  have t1 : (i < 0) = True := eq_true (by omega)
  clear hck
  go_enter Tryd.func62, Tryd.ntmps62
  go_wp2_with fail
  refine (Hhck.out w (Below.refl _ _)).mono ?_
  rintro e w1 ⟨rfl, hb_⟩
  have B2 := Aside0.mk (hb_)
  clear hb_
  go_wp2_with fail
  go_ret2
  exact ⟨rfl, B2.out⟩
set_option maxHeartbeats 1600000 in
set_option maxRecDepth 100000 in
theorem rProve_big (A : Option Addr) (N c : Nat) (i : Int) (w : World) (hi : 0 ≤ i ∧ (N : Int) ≤ i) (hck : ∀ W : World, Below w.heap.size w W → Calls Tryd.prog 86 #[.slice A N c] W fun e w' => e = .returned (.int .i64 0) ∧ Below W.heap.size W w') : Calls Tryd.prog 62 #[.slice A N c, .int .i64 i] w fun e w' => e = .returned (.tuple #[.slice none 0 0, .int .i64 2]) ∧ Below w.heap.size w w' := by
  have Hhck := Aside0.mk hck
  have t1 : (i < 0) = False := eq_false (by omega)
  have t2 : ((N : Int) ≤ i) = True := eq_true (by omega)
  clear hck
  go_enter Tryd.func62, Tryd.ntmps62
  go_wp2_with fail
  refine (Hhck.out w (Below.refl _ _)).mono ?_
  rintro e w1 ⟨rfl, hb_⟩
  have B2 := Aside0.mk (hb_)
  clear hb_
  go_wp2_with fail
  go_ret2
  exact ⟨rfl, B2.out⟩
set_option maxHeartbeats 1600000 in
set_option maxRecDepth 100000 in
theorem rProve_ok (A : Option Addr) (N c i : Nat) (ds pf : List Dg) (w : World) (hi : i < N) (hck : ∀ W : World, Below w.heap.size w W → Calls Tryd.prog 86 #[.slice A N c] W fun e w' => e = .returned (.int .i64 0) ∧ Below W.heap.size W w') (hds : ∀ W : World, Below w.heap.size w W → Calls Tryd.prog 88 #[.slice A N c] W fun e w' => ∃ v0_ : Value, e = .returned v0_ ∧ Kd.R kdg 23 w' W.heap.size (fun _ => True) v0_ ds ∧ Below W.heap.size W w') (hpf : ∀ (A1 : Option Addr) (c1 : Nat) (W : World), Kd.C kdg W A1 ds.length ds → ds.length ≤ c1 → Calls Tryd.prog 89 #[.slice A1 ds.length c1, .int .i64 (i : Int)] W fun e w' => ∃ v0_ : Value, e = .returned v0_ ∧ Kd.R kdg 23 w' W.heap.size (fun _ => True) v0_ pf ∧ Below W.heap.size W w') : Calls Tryd.prog 62 #[.slice A N c, .int .i64 (i : Int)] w fun e w' => ∃ v0_ : Value, e = .returned (.tuple #[v0_, .int .i64 0]) ∧ Kd.R kdg 23 w' w.heap.size (fun _ => True) v0_ pf ∧ Below w.heap.size w w' := by
  have Hhck := Aside0.mk hck
  have Hhds := Aside0.mk hds
  have Hhpf := Aside0.mk hpf
  have t1 : ((i : Int) < 0) = False := eq_false (by omega)
  have t2 : ((N : Int) ≤ (i : Int)) = False := eq_false (by omega)
  have t3 : (N ≤ i) = False := eq_false (by omega)
  clear hi hck hds hpf
  go_enter Tryd.func62, Tryd.ntmps62
  go_wp2_with fail
  refine (Hhck.out w (Below.refl _ _)).mono ?_
  rintro e w1 ⟨rfl, hb_⟩
  have B2 := Aside0.mk (hb_)
  clear hb_
  go_wp2_with fail
  refine (Hhds.out w1 B2.out).mono ?_
  rintro e w3 ⟨vr_, rfl, hR_, hb_⟩
  have B4 := Aside0.mk (below_step B2.out hb_)
  clear hb_ B2
  obtain ⟨r0, c0, rfl, hle_, hC_⟩ := Kd.R_reads hR_
  have R0 := Aside0.mk hC_
  have L0 := Aside0.mk hle_
  clear hC_ hle_ hR_
  have HSZ := Aside0.mk (below_size B4.out)
  go_wp2_with fail
  refine (Hhpf.out r0 c0 w3 (Kd.C_below R0.out (Below.refl _ _)) L0.out).mono ?_
  rintro e w5 ⟨vp_, rfl, hR_, hb_⟩
  have B6 := Aside0.mk (below_step B4.out hb_)
  have B7 := Aside0.mk (hb_)
  clear hb_ B4
  have RP := Aside0.mk hR_
  clear hR_
  go_wp2_with fail
  go_ret2
  exact ⟨_, rfl, Kd.R_lower RP.out HSZ.out, B6.out⟩
end Go.Proofs.YtbldecdipicddaaDoor.Hand
