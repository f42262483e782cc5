/- tree.Root and tree.Prove, by what they call. Written by wip/s1/mkprove.py. -/
import Derived.Test.YtbldecdipicddaaDoorHRevD
import Derived.Test.YtbldecdipicddaaDoorTreeMath
set_option linter.unusedSimpArgs false
set_option linter.unusedVariables false
namespace Go.Proofs.YtbldecdipicddaaDoor.Hand
open Go Go.RowKit Go.Proofs.YtbldecdipicddaaDoorW.PrintWords Go.Proofs.YtbldecdipicddaaDoorW.PrintLast
/-- The digests beside the way to i, from the root down (rt: the root of a list; k: at least the list's length). -/
def pwr (rt : List Dg → Dg) : Nat → List Dg → Nat → List Dg
  | 0, _, _ => []
  | k + 1, l, i => if l.length ≤ 1 then [] else if hf l.length ≤ i then rt (l.take (hf l.length)) :: pwr rt k (l.drop (hf l.length)) (i - hf l.length) else rt (l.drop (hf l.length)) :: pwr rt k (l.take (hf l.length)) i
theorem pwr_end (rt : List Dg → Dg) (k : Nat) (l : List Dg) (i : Nat) (h : l.length ≤ 1) : pwr rt k l i = [] := by
  cases k with
  | zero => rfl
  | succ k => rw [pwr, if_pos h]
theorem pwr_right (rt : List Dg → Dg) (k : Nat) (l : List Dg) (i : Nat) (h : 1 < l.length) (hi : hf l.length ≤ i) : pwr rt (k + 1) l i = rt (l.take (hf l.length)) :: pwr rt k (l.drop (hf l.length)) (i - hf l.length) := by rw [pwr, if_neg (by omega), if_pos hi]
theorem pwr_left (rt : List Dg → Dg) (k : Nat) (l : List Dg) (i : Nat) (h : 1 < l.length) (hi : ¬ hf l.length ≤ i) : pwr rt (k + 1) l i = rt (l.drop (hf l.length)) :: pwr rt k (l.take (hf l.length)) i := by rw [pwr, if_neg (by omega), if_neg hi]
set_option maxHeartbeats 1600000 in
set_option maxRecDepth 100000 in
theorem hRoot_err (A : Option Addr) (N c : Nat) (w : World) (hlv : ∀ W : World, Calls Tryd.prog 72 #[.slice A N c] W fun e w' => e = .returned (.tuple #[.slice none 0 0, .int .i64 4]) ∧ w' = W) : Calls Tryd.prog 35 #[.slice A N c] w fun e w' => e = .returned (.tuple #[.agg #[.int .u8 0, .int .u8 0, .int .u8 0, .int .u8 0, .int .u8 0, .int .u8 0, .int .u8 0, .int .u8 0, .int .u8 0, .int .u8 0, .int .u8 0, .int .u8 0, .int .u8 0, .int .u8 0, .int .u8 0, .int .u8 0, .int .u8 0, .int .u8 0, .int .u8 0, .int .u8 0], .int .i64 4]) ∧ Below w.heap.size w w' := by
  have Hhlv := Aside0.mk hlv
  clear hlv
  go_enter Tryd.func35, Tryd.ntmps35
  go_wp2_with (first | ((with_reducible refine gate_dst (N := 2) rfl ?_); refine box_event ?hg (N := 2) ?hd (cs := #[.int .u8 0, .int .u8 0, .int .u8 0, .int .u8 0, .int .u8 0, .int .u8 0, .int .u8 0, .int .u8 0, .int .u8 0, .int .u8 0, .int .u8 0, .int .u8 0, .int .u8 0, .int .u8 0, .int .u8 0, .int .u8 0, .int .u8 0, .int .u8 0, .int .u8 0, .int .u8 0]) (t := 23) ?hr ?_; (case hd => rfl); (case hg => rfl); (case hr => first | (go_simp; done) | (go_simp; rfl)); intro g1 hgg1 w2 hhg1 hbg1; have H5 := Aside0.mk hhg1; have G3 : w.heap.size ≤ g1 := Nat.le_of_eq hgg1.symm; have B4 := Aside0.mk (hbg1); clear hgg1 hhg1 hbg1))
  refine (Hhlv.out _).mono ?_
  rintro e w' ⟨rfl, hw_⟩
  obtain rfl := hw_
  go_wp2_with (first | ((with_reducible refine gate_store (t := 23) (p := _) rfl ?_); refine storeN_event (T := 23) rfl rfl rfl rfl rfl (storeVar_blk H5.out 23 0 [.int .u8 0, .int .u8 0, .int .u8 0, .int .u8 0, .int .u8 0, .int .u8 0, .int .u8 0, .int .u8 0, .int .u8 0, .int .u8 0, .int .u8 0, .int .u8 0, .int .u8 0, .int .u8 0, .int .u8 0, .int .u8 0, .int .u8 0, .int .u8 0, .int .u8 0, .int .u8 0] (by kernel_rfl) rfl (by simp)) ?_; have H7 := Aside0.mk (show (World.setCells w' g1 0 [.int .u8 0, .int .u8 0, .int .u8 0, .int .u8 0, .int .u8 0, .int .u8 0, .int .u8 0, .int .u8 0, .int .u8 0, .int .u8 0, .int .u8 0, .int .u8 0, .int .u8 0, .int .u8 0, .int .u8 0, .int .u8 0, .int .u8 0, .int .u8 0, .int .u8 0, .int .u8 0]).heap[g1]? = some (.cells #[.int .u8 0, .int .u8 0, .int .u8 0, .int .u8 0, .int .u8 0, .int .u8 0, .int .u8 0, .int .u8 0, .int .u8 0, .int .u8 0, .int .u8 0, .int .u8 0, .int .u8 0, .int .u8 0, .int .u8 0, .int .u8 0, .int .u8 0, .int .u8 0, .int .u8 0, .int .u8 0] 23 (0, 0)) from blk_setCells [] [.int .u8 0, .int .u8 0, .int .u8 0, .int .u8 0, .int .u8 0, .int .u8 0, .int .u8 0, .int .u8 0, .int .u8 0, .int .u8 0, .int .u8 0, .int .u8 0, .int .u8 0, .int .u8 0, .int .u8 0, .int .u8 0, .int .u8 0, .int .u8 0, .int .u8 0, .int .u8 0] [.int .u8 0, .int .u8 0, .int .u8 0, .int .u8 0, .int .u8 0, .int .u8 0, .int .u8 0, .int .u8 0, .int .u8 0, .int .u8 0, .int .u8 0, .int .u8 0, .int .u8 0, .int .u8 0, .int .u8 0, .int .u8 0, .int .u8 0, .int .u8 0, .int .u8 0, .int .u8 0] [] w' rfl H5.out); have B8 := Aside0.mk (below_setCells G3 [.int .u8 0, .int .u8 0, .int .u8 0, .int .u8 0, .int .u8 0, .int .u8 0, .int .u8 0, .int .u8 0, .int .u8 0, .int .u8 0, .int .u8 0, .int .u8 0, .int .u8 0, .int .u8 0, .int .u8 0, .int .u8 0, .int .u8 0, .int .u8 0, .int .u8 0, .int .u8 0] 0 w' B4.out); clear H5 B4; generalize World.setCells w' g1 0 [.int .u8 0, .int .u8 0, .int .u8 0, .int .u8 0, .int .u8 0, .int .u8 0, .int .u8 0, .int .u8 0, .int .u8 0, .int .u8 0, .int .u8 0, .int .u8 0, .int .u8 0, .int .u8 0, .int .u8 0, .int .u8 0, .int .u8 0, .int .u8 0, .int .u8 0, .int .u8 0] = w6 at H7 B8 ⊢))
  exact bodyPost_ret (results_ct rfl _ _ g1 23 #[.int .u8 0, .int .u8 0, .int .u8 0, .int .u8 0, .int .u8 0, .int .u8 0, .int .u8 0, .int .u8 0, .int .u8 0, .int .u8 0, .int .u8 0, .int .u8 0, .int .u8 0, .int .u8 0, .int .u8 0, .int .u8 0, .int .u8 0, .int .u8 0, .int .u8 0, .int .u8 0] (0, 0) _ rfl H7.out Tryd.underlying23 rfl (by kernel_rfl)) rfl ⟨rfl, B8.out⟩
set_option maxHeartbeats 1600000 in
set_option maxRecDepth 100000 in
theorem hRoot_ok (A : Option Addr) (N c : Nat) (ds : List Dg) (r : Dg) (w : World) (hT : TabQ w) (hlv : ∀ W : World, TabQ W → Below w.heap.size w W → Calls Tryd.prog 72 #[.slice A N c] W fun e w' => ∃ v0_ : Value, e = .returned (.tuple #[v0_, .int .i64 0]) ∧ Kd.R kdg 23 w' W.heap.size (fun _ => True) v0_ ds ∧ Below W.heap.size W w') (hrt : ∀ (A1 : Option Addr) (c1 : Nat) (W : World), TabQ W → Kd.C kdg W A1 ds.length ds → ds.length ≤ c1 → Calls Tryd.prog 73 #[.slice A1 ds.length c1] W fun e w' => e = .returned (.tuple #[.agg #[.int .u8 (r 0), .int .u8 (r 1), .int .u8 (r 2), .int .u8 (r 3), .int .u8 (r 4), .int .u8 (r 5), .int .u8 (r 6), .int .u8 (r 7), .int .u8 (r 8), .int .u8 (r 9), .int .u8 (r 10), .int .u8 (r 11), .int .u8 (r 12), .int .u8 (r 13), .int .u8 (r 14), .int .u8 (r 15), .int .u8 (r 16), .int .u8 (r 17), .int .u8 (r 18), .int .u8 (r 19)], .int .i64 0]) ∧ Below W.heap.size W w') : Calls Tryd.prog 35 #[.slice A N c] w fun e w' => e = .returned (.tuple #[.agg #[.int .u8 (r 0), .int .u8 (r 1), .int .u8 (r 2), .int .u8 (r 3), .int .u8 (r 4), .int .u8 (r 5), .int .u8 (r 6), .int .u8 (r 7), .int .u8 (r 8), .int .u8 (r 9), .int .u8 (r 10), .int .u8 (r 11), .int .u8 (r 12), .int .u8 (r 13), .int .u8 (r 14), .int .u8 (r 15), .int .u8 (r 16), .int .u8 (r 17), .int .u8 (r 18), .int .u8 (r 19)], .int .i64 0]) ∧ Below w.heap.size w w' := by
  have HhT := Aside0.mk hT
  have Hhlv := Aside0.mk hlv
  have Hhrt := Aside0.mk hrt
  clear hT hlv hrt
  go_enter Tryd.func35, Tryd.ntmps35
  go_wp2_with (first | ((with_reducible refine gate_dst (N := 2) rfl ?_); refine box_event ?hg (N := 2) ?hd (cs := #[.int .u8 0, .int .u8 0, .int .u8 0, .int .u8 0, .int .u8 0, .int .u8 0, .int .u8 0, .int .u8 0, .int .u8 0, .int .u8 0, .int .u8 0, .int .u8 0, .int .u8 0, .int .u8 0, .int .u8 0, .int .u8 0, .int .u8 0, .int .u8 0, .int .u8 0, .int .u8 0]) (t := 23) ?hr ?_; (case hd => rfl); (case hg => rfl); (case hr => first | (go_simp; done) | (go_simp; rfl)); intro g1 hgg1 w2 hhg1 hbg1; have H5 := Aside0.mk hhg1; have G3 : w.heap.size ≤ g1 := Nat.le_of_eq hgg1.symm; have B4 := Aside0.mk (hbg1); clear hgg1 hhg1 hbg1))
  refine (Hhlv.out w2 (HhT.out.at B4.out) B4.out).mono ?_
  rintro e w6 ⟨vr_, rfl, hR_, hb_⟩
  have B7 := Aside0.mk (below_step B4.out hb_)
  have H8 := Aside0.mk (blk_below H5.out hb_)
  clear hb_ B4 H5
  obtain ⟨r0, c0, rfl, hle_, hC_⟩ := Kd.R_reads hR_
  have R0 := Aside0.mk hC_
  have L0 := Aside0.mk hle_
  clear hC_ hle_ hR_
  go_wp2_with fail
  refine (Hhrt.out r0 c0 w6 (HhT.out.at B7.out) (Kd.C_below R0.out (Below.refl _ _)) L0.out).mono ?_
  rintro e w9 ⟨rfl, hb_⟩
  have B10 := Aside0.mk (below_step B7.out hb_)
  have B11 := Aside0.mk (hb_)
  have H12 := Aside0.mk (blk_below H8.out hb_)
  clear hb_ B7 H8
  go_wp2_with (first | ((with_reducible refine gate_store (t := 23) (p := _) rfl ?_); refine storeN_event (T := 23) rfl rfl rfl rfl rfl (storeVar_blk H12.out 23 0 [.int .u8 (r 0), .int .u8 (r 1), .int .u8 (r 2), .int .u8 (r 3), .int .u8 (r 4), .int .u8 (r 5), .int .u8 (r 6), .int .u8 (r 7), .int .u8 (r 8), .int .u8 (r 9), .int .u8 (r 10), .int .u8 (r 11), .int .u8 (r 12), .int .u8 (r 13), .int .u8 (r 14), .int .u8 (r 15), .int .u8 (r 16), .int .u8 (r 17), .int .u8 (r 18), .int .u8 (r 19)] (by kernel_rfl) rfl (by simp)) ?_; have H14 := Aside0.mk (show (World.setCells w9 g1 0 [.int .u8 (r 0), .int .u8 (r 1), .int .u8 (r 2), .int .u8 (r 3), .int .u8 (r 4), .int .u8 (r 5), .int .u8 (r 6), .int .u8 (r 7), .int .u8 (r 8), .int .u8 (r 9), .int .u8 (r 10), .int .u8 (r 11), .int .u8 (r 12), .int .u8 (r 13), .int .u8 (r 14), .int .u8 (r 15), .int .u8 (r 16), .int .u8 (r 17), .int .u8 (r 18), .int .u8 (r 19)]).heap[g1]? = some (.cells #[.int .u8 (r 0), .int .u8 (r 1), .int .u8 (r 2), .int .u8 (r 3), .int .u8 (r 4), .int .u8 (r 5), .int .u8 (r 6), .int .u8 (r 7), .int .u8 (r 8), .int .u8 (r 9), .int .u8 (r 10), .int .u8 (r 11), .int .u8 (r 12), .int .u8 (r 13), .int .u8 (r 14), .int .u8 (r 15), .int .u8 (r 16), .int .u8 (r 17), .int .u8 (r 18), .int .u8 (r 19)] 23 (0, 0)) from blk_setCells [] [.int .u8 (r 0), .int .u8 (r 1), .int .u8 (r 2), .int .u8 (r 3), .int .u8 (r 4), .int .u8 (r 5), .int .u8 (r 6), .int .u8 (r 7), .int .u8 (r 8), .int .u8 (r 9), .int .u8 (r 10), .int .u8 (r 11), .int .u8 (r 12), .int .u8 (r 13), .int .u8 (r 14), .int .u8 (r 15), .int .u8 (r 16), .int .u8 (r 17), .int .u8 (r 18), .int .u8 (r 19)] [.int .u8 0, .int .u8 0, .int .u8 0, .int .u8 0, .int .u8 0, .int .u8 0, .int .u8 0, .int .u8 0, .int .u8 0, .int .u8 0, .int .u8 0, .int .u8 0, .int .u8 0, .int .u8 0, .int .u8 0, .int .u8 0, .int .u8 0, .int .u8 0, .int .u8 0, .int .u8 0] [] w9 rfl H12.out); have B15 := Aside0.mk (below_setCells G3 [.int .u8 (r 0), .int .u8 (r 1), .int .u8 (r 2), .int .u8 (r 3), .int .u8 (r 4), .int .u8 (r 5), .int .u8 (r 6), .int .u8 (r 7), .int .u8 (r 8), .int .u8 (r 9), .int .u8 (r 10), .int .u8 (r 11), .int .u8 (r 12), .int .u8 (r 13), .int .u8 (r 14), .int .u8 (r 15), .int .u8 (r 16), .int .u8 (r 17), .int .u8 (r 18), .int .u8 (r 19)] 0 w9 B10.out); clear H12 B10; generalize World.setCells w9 g1 0 [.int .u8 (r 0), .int .u8 (r 1), .int .u8 (r 2), .int .u8 (r 3), .int .u8 (r 4), .int .u8 (r 5), .int .u8 (r 6), .int .u8 (r 7), .int .u8 (r 8), .int .u8 (r 9), .int .u8 (r 10), .int .u8 (r 11), .int .u8 (r 12), .int .u8 (r 13), .int .u8 (r 14), .int .u8 (r 15), .int .u8 (r 16), .int .u8 (r 17), .int .u8 (r 18), .int .u8 (r 19)] = w13 at H14 B15 ⊢))
  exact bodyPost_ret (results_ct rfl _ _ g1 23 #[.int .u8 (r 0), .int .u8 (r 1), .int .u8 (r 2), .int .u8 (r 3), .int .u8 (r 4), .int .u8 (r 5), .int .u8 (r 6), .int .u8 (r 7), .int .u8 (r 8), .int .u8 (r 9), .int .u8 (r 10), .int .u8 (r 11), .int .u8 (r 12), .int .u8 (r 13), .int .u8 (r 14), .int .u8 (r 15), .int .u8 (r 16), .int .u8 (r 17), .int .u8 (r 18), .int .u8 (r 19)] (0, 0) _ rfl H14.out Tryd.underlying23 rfl (by kernel_rfl)) rfl ⟨rfl, B15.out⟩
set_option maxHeartbeats 1600000 in
set_option maxRecDepth 100000 in
theorem hProve_err (A : Option Addr) (N c : Nat) (i : Int) (w : World) (hlv : ∀ W : World, Calls Tryd.prog 72 #[.slice A N c] W fun e w' => e = .returned (.tuple #[.slice none 0 0, .int .i64 4]) ∧ w' = W) : Calls Tryd.prog 36 #[.slice A N c, .int .i64 i] w fun e w' => e = .returned (.tuple #[.slice none 0 0, .int .i64 4]) ∧ w' = w := by
  have Hhlv := Aside0.mk hlv
  clear hlv
  go_enter Tryd.func36, Tryd.ntmps36
  go_wp2_with fail
  refine (Hhlv.out _).mono ?_
  rintro e w' ⟨rfl, rfl⟩
  go_wp2_with fail
  go_ret2
  exact ⟨rfl, rfl⟩
set_option maxHeartbeats 1600000 in
set_option maxRecDepth 100000 in
theorem hProve_neg (A : Option Addr) (N c : Nat) (i : Int) (ds : List Dg) (w : World) (hT : TabQ w) (hi : i < 0) (hlv : ∀ W : World, TabQ W → Below w.heap.size w W → Calls Tryd.prog 72 #[.slice A N c] W fun e w' => ∃ v0_ : Value, e = .returned (.tuple #[v0_, .int .i64 0]) ∧ Kd.R kdg 23 w' W.heap.size (fun _ => True) v0_ ds ∧ Below W.heap.size W w') : Calls Tryd.prog 36 #[.slice A N c, .int .i64 i] w fun e w' => e = .returned (.tuple #[.slice none 0 0, .int .i64 2]) ∧ Below w.heap.size w w' := by
  have HhT := Aside0.mk hT
  have Hhlv := Aside0.mk hlv
  have t1 : (i < 0) = True := eq_true (by omega)
  clear hT hlv
  go_enter Tryd.func36, Tryd.ntmps36
  go_wp2_with fail
  refine (Hhlv.out w (HhT.out.at (Below.refl _ _)) (Below.refl _ _)).mono ?_
  rintro e w1 ⟨vr_, rfl, hR_, hb_⟩
  have B2 := Aside0.mk (hb_)
  clear hb_
  clear hR_
  go_wp2_with fail
  go_ret2
  exact ⟨rfl, B2.out⟩
set_option maxHeartbeats 1600000 in
set_option maxRecDepth 100000 in
theorem hProve_big (A : Option Addr) (N c : Nat) (i : Int) (ds : List Dg) (w : World) (hT : TabQ w) (hi : 0 ≤ i ∧ (N : Int) ≤ i) (hlv : ∀ W : World, TabQ W → Below w.heap.size w W → Calls Tryd.prog 72 #[.slice A N c] W fun e w' => ∃ v0_ : Value, e = .returned (.tuple #[v0_, .int .i64 0]) ∧ Kd.R kdg 23 w' W.heap.size (fun _ => True) v0_ ds ∧ Below W.heap.size W w') : Calls Tryd.prog 36 #[.slice A N c, .int .i64 i] w fun e w' => e = .returned (.tuple #[.slice none 0 0, .int .i64 2]) ∧ Below w.heap.size w w' := by
  have HhT := Aside0.mk hT
  have Hhlv := Aside0.mk hlv
  have t1 : (i < 0) = False := eq_false (by omega)
  have t2 : ((N : Int) ≤ i) = True := eq_true (by omega)
  clear hT hlv
  go_enter Tryd.func36, Tryd.ntmps36
  go_wp2_with fail
  refine (Hhlv.out w (HhT.out.at (Below.refl _ _)) (Below.refl _ _)).mono ?_
  rintro e w1 ⟨vr_, rfl, hR_, hb_⟩
  have B2 := Aside0.mk (hb_)
  clear hb_
  clear hR_
  go_wp2_with fail
  go_ret2
  exact ⟨rfl, B2.out⟩
set_option maxHeartbeats 1600000 in
set_option maxRecDepth 100000 in
theorem hProve_ok (A : Option Addr) (N c i : Nat) (ds : List Dg) (rt : List Dg → Dg) (w : World) (hT : TabQ w) (hi : i < ds.length ∧ i < N) (hl : ds.length ≤ 600) (hlv : ∀ W : World, TabQ W → Below w.heap.size w W → Calls Tryd.prog 72 #[.slice A N c] W fun e w' => ∃ v0_ : Value, e = .returned (.tuple #[v0_, .int .i64 0]) ∧ Kd.R kdg 23 w' W.heap.size (fun _ => True) v0_ ds ∧ Below W.heap.size W w') (hhalf : ∀ n : Nat, 2 ≤ n → n ≤ 600 → ∀ W : World, Calls Tryd.prog 74 #[.int .i64 (n : Int)] W fun e w' => e = .returned (.int .i64 (hf n : Int)) ∧ Below W.heap.size W w')
    (hrt : ∀ (l : List Dg) (n : Nat) (A1 : Option Addr) (c1 : Nat) (W : World), TabQ W → l.length = n → n ≤ 600 → Kd.C kdg W A1 n l → n ≤ c1 → Calls Tryd.prog 73 #[.slice A1 n c1] W fun e w' => e = .returned (.tuple #[.agg #[.int .u8 (rt l 0), .int .u8 (rt l 1), .int .u8 (rt l 2), .int .u8 (rt l 3), .int .u8 (rt l 4), .int .u8 (rt l 5), .int .u8 (rt l 6), .int .u8 (rt l 7), .int .u8 (rt l 8), .int .u8 (rt l 9), .int .u8 (rt l 10), .int .u8 (rt l 11), .int .u8 (rt l 12), .int .u8 (rt l 13), .int .u8 (rt l 14), .int .u8 (rt l 15), .int .u8 (rt l 16), .int .u8 (rt l 17), .int .u8 (rt l 18), .int .u8 (rt l 19)], .int .i64 0]) ∧ Below W.heap.size W w') :
    Calls Tryd.prog 36 #[.slice A N c, .int .i64 (i : Int)] w fun e w' => ∃ v0_ : Value, e = .returned (.tuple #[v0_, .int .i64 0]) ∧ Kd.R kdg 23 w' w.heap.size (fun _ => True) v0_ (pwr rt ds.length ds i).reverse ∧ Below w.heap.size w w' := by
  have HhT := Aside0.mk hT
  have Hhlv := Aside0.mk hlv
  have Hhhalf := Aside0.mk hhalf
  have Hhrt := Aside0.mk hrt
  have Hhi := Aside0.mk hi
  have Hhl := Aside0.mk hl
  have t1 : ((i : Int) < 0) = False := eq_false (by omega)
  have t2 : ((N : Int) ≤ (i : Int)) = False := eq_false (by omega)
  have t3 : (N ≤ i) = False := eq_false (by omega)
  clear hT hlv hhalf hrt hi hl
  go_enter Tryd.func36, Tryd.ntmps36
  go_wp2_with fail
  refine (Hhlv.out _ HhT.out (Below.refl _ _)).mono ?_
  rintro e w1 ⟨vr_, rfl, hR_, hb_⟩
  have BA := Aside0.mk hb_
  obtain ⟨r0, c0, rfl, hle_, hC_⟩ := Kd.R_reads hR_
  have R0 := Aside0.mk hC_
  have L0 := Aside0.mk hle_
  clear hC_ hle_ hR_ hb_
  go_wp2_with fail
  go_loopg [1, 6, 8] ds.length (fun m v1 v6 v8 w2 => ∃ (n j : Nat) (A' : Option Addr) (c' : Nat) (l acc : List Dg), v1 = .int .i64 (j : Int) ∧ v6 = .slice A' n c' ∧ Aside0 (l.length = n ∧ n ≤ m ∧ j < n ∧ n ≤ c' ∧ n ≤ 600 ∧ acc.length + n ≤ 700) ∧ Aside0 (Kd.C kdg w1 A' n l) ∧ Aside0 (Kd.R kdg 23 w2 w1.heap.size (fun _ => True) v8 acc) ∧ Aside0 (acc ++ pwr rt m l j = pwr rt ds.length ds i) ∧ Aside0 (Below w1.heap.size w1 w2))
  case atStart => exact ⟨_, i, _, _, ds, [], rfl, rfl, ⟨rfl, Nat.le_refl _, Hhi.out.1, L0.out, Hhl.out, by have := Hhl.out; simp only [List.length_nil]; omega⟩, R0, ⟨Kd.R_nil _ _ _ _ _⟩, ⟨rfl⟩, ⟨Below.refl _ _⟩⟩
  case round =>
    obtain ⟨n, j, A', c', l, acc, rfl, rfl, HN, HC, HO, HP, BB⟩ := hrel
    by_cases h1 : 1 < n
    · obtain ⟨go, rfl⟩ : ∃ j, gk = j + 1 := ⟨gk - 1, by have := HN.out; omega⟩
      have f1 : (1 < (n : Int)) = True := eq_true (by omega)
      have f2 : (1 < n) = True := eq_true h1
      have hF := hf_all n (by have := HN.out; omega) (by omega)
      obtain ⟨k, hk⟩ : ∃ k, k = hf n := ⟨_, rfl⟩
      have HH := Aside0.mk (Hhhalf.out n (by omega) HN.out.2.2.2.2.1)
      rw [← hk] at hF HH
      have HK := Aside0.mk hk
      have HF := Aside0.mk hF
      have H1 := Aside0.mk h1
      have hcut := fun W : World => cut55 A' n c' k (by omega) HN.out.2.2.2.1 W
      obtain ⟨A2, hcut2, hC2⟩ := cut55b A' n c' k (by omega) HN.out.2.2.2.1
      have HC2 := Aside0.mk (hC2 w1 l HN.out.1 HC.out)
      have HCT : Aside0 (Kd.C kdg w1 A' k (l.take k)) := ⟨by have h := Kd.C_take (m := k) (show Kd.C kdg w1 A' l.length l by have := HC.out; rwa [← HN.out.1] at this) (by rw [HN.out.1]; omega); rwa [show (l.take k).length = k by rw [List.length_take, HN.out.1]; omega] at h⟩
      clear hF hk h1 hC2
      by_cases hkj : k ≤ j
      · have g1 : ((k : Int) ≤ (j : Int)) = True := eq_true (by omega)
        have g2 : (k ≤ j) = True := eq_true (by omega)
        have u1 : wrap64 ((j : Int) - (k : Int)) = ((j - k : Nat) : Int) := by unfold wrap64; have := HN.out; omega
        have HKJ := Aside0.mk hkj
        clear hkj
        obtain ⟨x, hx⟩ : ∃ x : List Dg, x = (l.take k) := ⟨_, rfl⟩
        have HX0 := Aside0.mk hx
        have HXL : Aside0 (x.length = k) := ⟨by rw [hx]; have := HN.out; have := HF.out; simp only [List.length_take, List.length_drop]; omega⟩
        have HXC : Aside0 (Kd.C kdg w1 A' k x) := ⟨by rw [hx]; exact HCT.out⟩
        clear hx
        obtain ⟨p, hp⟩ : ∃ p : Dg, p = rt x := ⟨_, rfl⟩
        have HRT := Aside0.mk (Hhrt.out x)
        rw [← hp] at HRT
        have HP0 := Aside0.mk hp
        clear hp
        go_wp2_with fail
        refine (HH.out wr).mono ?_
        rintro e w101 ⟨rfl, hb_⟩
        have B102 := Aside0.mk (below_step BB.out hb_)
        have HO103 := Aside0.mk (Kd.R_below HO.out hb_)
        clear hb_ BB HO
        go_wp2_with fail
        have HO106 := Aside0.mk (Kd.R_drew HO103.out)
        have B105 := Aside0.mk (below_drew B102.out)
        clear B102
        clear HO103
        refine start_ (n := 8) (S := fun w' => True) (ds := []) #[false, false, false, false, false, false, false, false] (by kernel_rfl) rfl rfl trivial (fun hHeld => ?_)
        generalize World.drew w101 = w104 at B105 HO106 hHeld ⊢
        refine pure_ (i := 0) (N := some 36) (v := ?_) (a' := ?_) #[true, false, false, false, false, false, false, false] rfl rfl (by kernel_rfl) (fun _ _ _ h => h) (Or.inl ⟨by rfl, ?_⟩) ?_ ?_
        rotate_left
        · intro w'
          go_simp
          with_reducible rfl
        rotate_left
        · simp only [Act.put, List.setIfInBounds_toArray, List.set_cons_zero, List.set_cons_succ, i64_w, i32_w]
          rfl
        refine pure_ (i := 1) (N := some 37) (v := ?_) (a' := ?_) #[true, true, false, false, false, false, false, false] rfl rfl (by kernel_rfl) (fun _ _ _ h => h) (Or.inl ⟨by rfl, ?_⟩) ?_ ?_
        rotate_left
        · intro w'
          go_simp
          with_reducible rfl
        rotate_left
        · simp only [Act.put, List.setIfInBounds_toArray, List.set_cons_zero, List.set_cons_succ, i64_w, i32_w]
          rfl
        refine pure_ (i := 2) (N := some 38) (v := ?_) (a' := ?_) #[true, true, true, false, false, false, false, false] rfl rfl (by kernel_rfl) (fun _ _ _ h => h) (Or.inl ⟨by rfl, ?_⟩) ?_ ?_
        rotate_left
        · intro w'
          go_simp
          with_reducible rfl
        rotate_left
        · simp only [Act.put, List.setIfInBounds_toArray, List.set_cons_zero, List.set_cons_succ, i64_w, i32_w]
          rfl
        refine pure_ (i := 3) (N := some 39) (v := ?_) (a' := ?_) #[true, true, true, true, false, false, false, false] rfl rfl (by kernel_rfl) (fun _ _ _ h => h) (Or.inl ⟨by rfl, ?_⟩) ?_ ?_
        rotate_left
        · intro w'
          go_simp
          with_reducible rfl
        rotate_left
        · simp only [Act.put, List.setIfInBounds_toArray, List.set_cons_zero, List.set_cons_succ, i64_w, i32_w]
          rfl
        refine pure_ (i := 4) (N := some 40) (v := ?_) (a' := ?_) #[true, true, true, true, true, false, false, false] rfl rfl (by kernel_rfl) (fun _ _ _ h => h) (Or.inl ⟨by rfl, ?_⟩) ?_ ?_
        rotate_left
        · intro w'
          go_simp
          with_reducible rfl
        rotate_left
        · simp only [Act.put, List.setIfInBounds_toArray, List.set_cons_zero, List.set_cons_succ, i64_w, i32_w]
          rfl
        refine pure_ (i := 5) (N := some 41) (v := ?_) (a' := ?_) #[true, true, true, true, true, true, false, false] rfl rfl (by kernel_rfl) (fun _ _ _ h => h) (Or.inl ⟨by rfl, ?_⟩) ?_ ?_
        rotate_left
        · intro w'
          go_simp
          with_reducible rfl
        rotate_left
        · simp only [Act.put, List.setIfInBounds_toArray, List.set_cons_zero, List.set_cons_succ, i64_w, i32_w]
          rfl
        refine pure_ (i := 6) (N := some 10) (v := ?_) (a' := ?_) #[true, true, true, true, true, true, true, false] rfl rfl (by kernel_rfl) (fun _ _ _ h => h) (Or.inl ⟨by rfl, ?_⟩) ?_ ?_
        rotate_left
        · intro w'
          go_simp
          with_reducible rfl
        rotate_left
        · simp only [Act.put, List.setIfInBounds_toArray, List.set_cons_zero, List.set_cons_succ, i64_w, i32_w]
          rfl
        refine pure_ (i := 7) (N := some 11) (v := ?_) (a' := ?_) #[true, true, true, true, true, true, true, true] rfl rfl (by kernel_rfl) (fun _ _ _ h => h) (Or.inl ⟨by rfl, ?_⟩) ?_ ?_
        rotate_left
        · intro w'
          go_simp
          with_reducible rfl
        rotate_left
        · simp only [Act.put, List.setIfInBounds_toArray, List.set_cons_zero, List.set_cons_succ, i64_w, i32_w]
          rfl
        refine done_ (by kernel_rfl) ?_
        go_wp2_with fail
        refine (HRT.out k A' c' w104 (HhT.out.at (below_step BA.out B105.out)) HXL.out (by have := HN.out; have := HF.out; omega) (Kd.C_below HXC.out B105.out) (by have := HN.out; have := HF.out; omega)).mono ?_
        rintro e w107 ⟨rfl, hb_⟩
        have B108 := Aside0.mk (below_step B105.out hb_)
        have HO109 := Aside0.mk (Kd.R_below HO106.out hb_)
        clear hb_ B105 HO106
        go_wp2_with (first | ((with_reducible refine gate_dst (N := 12) rfl ?_); refine box_event ?hg (N := 12) ?hd (cs := #[.int .u8 0, .int .u8 0, .int .u8 0, .int .u8 0, .int .u8 0, .int .u8 0, .int .u8 0, .int .u8 0, .int .u8 0, .int .u8 0, .int .u8 0, .int .u8 0, .int .u8 0, .int .u8 0, .int .u8 0, .int .u8 0, .int .u8 0, .int .u8 0, .int .u8 0, .int .u8 0]) (t := 23) ?hr ?_; (case hd => rfl); (case hg => rfl); (case hr => first | (go_simp; done) | (go_simp; rfl)); intro g110 hgg110 w111 hhg110 hbg110; have H116 := Aside0.mk hhg110; have G112 : w1.heap.size ≤ g110 := Nat.le_trans B108.out.size (Nat.le_of_eq hgg110.symm); have G113 : w107.heap.size ≤ g110 := Nat.le_of_eq hgg110.symm; have B114 := Aside0.mk (below_step B108.out hbg110); have B115 := Aside0.mk (hbg110); clear hgg110 hhg110 hbg110 B108) | ((with_reducible refine gate_store (t := 23) (p := _) rfl ?_); refine storeN_event (T := 23) rfl rfl rfl rfl rfl (storeVar_blk H116.out 23 0 [.int .u8 (p 0), .int .u8 (p 1), .int .u8 (p 2), .int .u8 (p 3), .int .u8 (p 4), .int .u8 (p 5), .int .u8 (p 6), .int .u8 (p 7), .int .u8 (p 8), .int .u8 (p 9), .int .u8 (p 10), .int .u8 (p 11), .int .u8 (p 12), .int .u8 (p 13), .int .u8 (p 14), .int .u8 (p 15), .int .u8 (p 16), .int .u8 (p 17), .int .u8 (p 18), .int .u8 (p 19)] (by kernel_rfl) rfl (by simp)) ?_; have H118 := Aside0.mk (show (World.setCells w111 g110 0 [.int .u8 (p 0), .int .u8 (p 1), .int .u8 (p 2), .int .u8 (p 3), .int .u8 (p 4), .int .u8 (p 5), .int .u8 (p 6), .int .u8 (p 7), .int .u8 (p 8), .int .u8 (p 9), .int .u8 (p 10), .int .u8 (p 11), .int .u8 (p 12), .int .u8 (p 13), .int .u8 (p 14), .int .u8 (p 15), .int .u8 (p 16), .int .u8 (p 17), .int .u8 (p 18), .int .u8 (p 19)]).heap[g110]? = some (.cells #[.int .u8 (p 0), .int .u8 (p 1), .int .u8 (p 2), .int .u8 (p 3), .int .u8 (p 4), .int .u8 (p 5), .int .u8 (p 6), .int .u8 (p 7), .int .u8 (p 8), .int .u8 (p 9), .int .u8 (p 10), .int .u8 (p 11), .int .u8 (p 12), .int .u8 (p 13), .int .u8 (p 14), .int .u8 (p 15), .int .u8 (p 16), .int .u8 (p 17), .int .u8 (p 18), .int .u8 (p 19)] 23 (0, 0)) from blk_setCells [] [.int .u8 (p 0), .int .u8 (p 1), .int .u8 (p 2), .int .u8 (p 3), .int .u8 (p 4), .int .u8 (p 5), .int .u8 (p 6), .int .u8 (p 7), .int .u8 (p 8), .int .u8 (p 9), .int .u8 (p 10), .int .u8 (p 11), .int .u8 (p 12), .int .u8 (p 13), .int .u8 (p 14), .int .u8 (p 15), .int .u8 (p 16), .int .u8 (p 17), .int .u8 (p 18), .int .u8 (p 19)] [.int .u8 0, .int .u8 0, .int .u8 0, .int .u8 0, .int .u8 0, .int .u8 0, .int .u8 0, .int .u8 0, .int .u8 0, .int .u8 0, .int .u8 0, .int .u8 0, .int .u8 0, .int .u8 0, .int .u8 0, .int .u8 0, .int .u8 0, .int .u8 0, .int .u8 0, .int .u8 0] [] w111 rfl H116.out); have B119 := Aside0.mk (below_setCells G112 [.int .u8 (p 0), .int .u8 (p 1), .int .u8 (p 2), .int .u8 (p 3), .int .u8 (p 4), .int .u8 (p 5), .int .u8 (p 6), .int .u8 (p 7), .int .u8 (p 8), .int .u8 (p 9), .int .u8 (p 10), .int .u8 (p 11), .int .u8 (p 12), .int .u8 (p 13), .int .u8 (p 14), .int .u8 (p 15), .int .u8 (p 16), .int .u8 (p 17), .int .u8 (p 18), .int .u8 (p 19)] 0 w111 B114.out); have B120 := Aside0.mk (below_setCells G113 [.int .u8 (p 0), .int .u8 (p 1), .int .u8 (p 2), .int .u8 (p 3), .int .u8 (p 4), .int .u8 (p 5), .int .u8 (p 6), .int .u8 (p 7), .int .u8 (p 8), .int .u8 (p 9), .int .u8 (p 10), .int .u8 (p 11), .int .u8 (p 12), .int .u8 (p 13), .int .u8 (p 14), .int .u8 (p 15), .int .u8 (p 16), .int .u8 (p 17), .int .u8 (p 18), .int .u8 (p 19)] 0 w111 B115.out); clear H116 B114 B115; generalize World.setCells w111 g110 0 [.int .u8 (p 0), .int .u8 (p 1), .int .u8 (p 2), .int .u8 (p 3), .int .u8 (p 4), .int .u8 (p 5), .int .u8 (p 6), .int .u8 (p 7), .int .u8 (p 8), .int .u8 (p 9), .int .u8 (p 10), .int .u8 (p 11), .int .u8 (p 12), .int .u8 (p 13), .int .u8 (p 14), .int .u8 (p 15), .int .u8 (p 16), .int .u8 (p 17), .int .u8 (p 18), .int .u8 (p 19)] = w117 at H118 B119 B120 ⊢) | ((with_reducible refine gate_dst (N := 59) rfl ?_); refine loadG_event (T := 23) (by rfl) rfl rfl (run_loadVar_row _ _ _ _ _ (0, 0) _ H118.out Tryd.underlying23 rfl (by kernel_rfl)) ?_) | ((with_reducible refine gate_bltn (b := .append) (xs := #[.tmp 58, .tmp 60]) rfl ?_); at_builtin; refine Kd.R_append kdg (w0 := w1) w1.heap.size rfl (.tmp 58) (.tmp 60) 55 23 (.agg #[.int .u8 0, .int .u8 0, .int .u8 0, .int .u8 0, .int .u8 0, .int .u8 0, .int .u8 0, .int .u8 0, .int .u8 0, .int .u8 0, .int .u8 0, .int .u8 0, .int .u8 0, .int .u8 0, .int .u8 0, .int .u8 0, .int .u8 0, .int .u8 0, .int .u8 0, .int .u8 0]) 20 rfl Tryd.underlying55 info23p rfl (by decide) (by decide) _ acc p [.int .u8 (p 0), .int .u8 (p 1), .int .u8 (p 2), .int .u8 (p 3), .int .u8 (p 4), .int .u8 (p 5), .int .u8 (p 6), .int .u8 (p 7), .int .u8 (p 8), .int .u8 (p 9), .int .u8 (p 10), .int .u8 (p 11), .int .u8 (p 12), .int .u8 (p 13), .int .u8 (p 14), .int .u8 (p 15), .int .u8 (p 16), .int .u8 (p 17), .int .u8 (p 18), .int .u8 (p 19)] (fun _ => True) (fun _ => False) rfl rfl ?aP (fun _ hk => hk.elim) ?aF ?aO ?aB ?aS ?aL ?_; (case aP => exact dgM _ _ _ _); (case aB => first | exact B119.out | exact below_alloc B119.out _); (case aF => exact (fun _ _ => trivial)); (case aO => exact (by (with_reducible repeat (first | apply Kd.R_alloc)); exact (Kd.R_below HO109.out B120.out))); (case aS => first | exact below_size B119.out | exact below_size (below_alloc B119.out _)); (case aL => have := HN.out; omega); intro v200 w200 ho hb hg hat; have HO200 := Aside0.mk ho; have B200 := Aside0.mk hb; clear ho hb hg hat HO109 B119))
        go_roundg go
        case measure => have := HN.out; omega
        case rel =>
          refine ⟨n - k, j - k, A2, c' - k, l.drop k, acc ++ [p], (by first | rfl | rw [u1]), rfl, ⟨by rw [List.length_drop, HN.out.1], by have := HN.out; have := HF.out; omega, by have := HN.out; have := HF.out; have := HKJ.out; omega, by have := HN.out; omega, by have := HN.out; omega, by have := HN.out; have := HF.out; rw [List.length_append, List.length_singleton]; omega⟩, HC2, HO200, ⟨?_⟩, B200⟩
          rw [← HP.out, pwr_right rt go l j (by rw [HN.out.1]; exact H1.out) (by rw [HN.out.1, ← HK.out]; exact HKJ.out), HN.out.1, ← HK.out, ← HX0.out, ← HP0.out, List.append_assoc]
          rfl
      · have g1 : ((k : Int) ≤ (j : Int)) = False := eq_false (by omega)
        have g2 : (k ≤ j) = False := eq_false (by omega)
        have HKJ := Aside0.mk hkj
        clear hkj
        obtain ⟨x, hx⟩ : ∃ x : List Dg, x = (l.drop k) := ⟨_, rfl⟩
        have HX0 := Aside0.mk hx
        have HXL : Aside0 (x.length = n - k) := ⟨by rw [hx]; have := HN.out; have := HF.out; simp only [List.length_take, List.length_drop]; omega⟩
        have HXC : Aside0 (Kd.C kdg w1 A2 (n - k) x) := ⟨by rw [hx]; exact HC2.out⟩
        clear hx
        obtain ⟨p, hp⟩ : ∃ p : Dg, p = rt x := ⟨_, rfl⟩
        have HRT := Aside0.mk (Hhrt.out x)
        rw [← hp] at HRT
        have HP0 := Aside0.mk hp
        clear hp
        go_wp2_with fail
        refine (HH.out wr).mono ?_
        rintro e w101 ⟨rfl, hb_⟩
        have B102 := Aside0.mk (below_step BB.out hb_)
        have HO103 := Aside0.mk (Kd.R_below HO.out hb_)
        clear hb_ BB HO
        go_wp2_with fail
        have HO106 := Aside0.mk (Kd.R_drew HO103.out)
        have B105 := Aside0.mk (below_drew B102.out)
        clear B102
        clear HO103
        refine start_ (n := 8) (S := fun w' => True) (ds := []) #[false, false, false, false, false, false, false, false] (by kernel_rfl) rfl rfl trivial (fun hHeld => ?_)
        generalize World.drew w101 = w104 at B105 HO106 hHeld ⊢
        refine pure_ (i := 0) (N := some 36) (v := ?_) (a' := ?_) #[true, false, false, false, false, false, false, false] rfl rfl (by kernel_rfl) (fun _ _ _ h => h) (Or.inl ⟨by rfl, ?_⟩) ?_ ?_
        rotate_left
        · intro w'
          go_simp
          with_reducible rfl
        rotate_left
        · simp only [Act.put, List.setIfInBounds_toArray, List.set_cons_zero, List.set_cons_succ, i64_w, i32_w]
          rfl
        refine pure_ (i := 1) (N := some 37) (v := ?_) (a' := ?_) #[true, true, false, false, false, false, false, false] rfl rfl (by kernel_rfl) (fun _ _ _ h => h) (Or.inl ⟨by rfl, ?_⟩) ?_ ?_
        rotate_left
        · intro w'
          go_simp
          with_reducible rfl
        rotate_left
        · simp only [Act.put, List.setIfInBounds_toArray, List.set_cons_zero, List.set_cons_succ, i64_w, i32_w]
          rfl
        refine pure_ (i := 2) (N := some 38) (v := ?_) (a' := ?_) #[true, true, true, false, false, false, false, false] rfl rfl (by kernel_rfl) (fun _ _ _ h => h) (Or.inl ⟨by rfl, ?_⟩) ?_ ?_
        rotate_left
        · intro w'
          go_simp
          with_reducible rfl
        rotate_left
        · simp only [Act.put, List.setIfInBounds_toArray, List.set_cons_zero, List.set_cons_succ, i64_w, i32_w]
          rfl
        refine pure_ (i := 3) (N := some 39) (v := ?_) (a' := ?_) #[true, true, true, true, false, false, false, false] rfl rfl (by kernel_rfl) (fun _ _ _ h => h) (Or.inl ⟨by rfl, ?_⟩) ?_ ?_
        rotate_left
        · intro w'
          go_simp
          with_reducible rfl
        rotate_left
        · simp only [Act.put, List.setIfInBounds_toArray, List.set_cons_zero, List.set_cons_succ, i64_w, i32_w]
          rfl
        refine pure_ (i := 4) (N := some 40) (v := ?_) (a' := ?_) #[true, true, true, true, true, false, false, false] rfl rfl (by kernel_rfl) (fun _ _ _ h => h) (Or.inl ⟨by rfl, ?_⟩) ?_ ?_
        rotate_left
        · intro w'
          go_simp
          with_reducible rfl
        rotate_left
        · simp only [Act.put, List.setIfInBounds_toArray, List.set_cons_zero, List.set_cons_succ, i64_w, i32_w]
          rfl
        refine pure_ (i := 5) (N := some 41) (v := ?_) (a' := ?_) #[true, true, true, true, true, true, false, false] rfl rfl (by kernel_rfl) (fun _ _ _ h => h) (Or.inl ⟨by rfl, ?_⟩) ?_ ?_
        rotate_left
        · intro w'
          go_simp
          with_reducible rfl
        rotate_left
        · simp only [Act.put, List.setIfInBounds_toArray, List.set_cons_zero, List.set_cons_succ, i64_w, i32_w]
          rfl
        refine pure_ (i := 6) (N := some 10) (v := ?_) (a' := ?_) #[true, true, true, true, true, true, true, false] rfl rfl (by kernel_rfl) (fun _ _ _ h => h) (Or.inl ⟨by rfl, ?_⟩) ?_ ?_
        rotate_left
        · intro w'
          go_simp
          with_reducible rfl
        rotate_left
        · simp only [Act.put, List.setIfInBounds_toArray, List.set_cons_zero, List.set_cons_succ, i64_w, i32_w]
          rfl
        refine pure_ (i := 7) (N := some 11) (v := ?_) (a' := ?_) #[true, true, true, true, true, true, true, true] rfl rfl (by kernel_rfl) (fun _ _ _ h => h) (Or.inl ⟨by rfl, ?_⟩) ?_ ?_
        rotate_left
        · intro w'
          go_simp
          with_reducible rfl
        rotate_left
        · simp only [Act.put, List.setIfInBounds_toArray, List.set_cons_zero, List.set_cons_succ, i64_w, i32_w]
          rfl
        refine done_ (by kernel_rfl) ?_
        go_wp2_with fail
        refine (HRT.out (n - k) A2 (c' - k) w104 (HhT.out.at (below_step BA.out B105.out)) HXL.out (by have := HN.out; have := HF.out; omega) (Kd.C_below HXC.out B105.out) (by have := HN.out; have := HF.out; omega)).mono ?_
        rintro e w107 ⟨rfl, hb_⟩
        have B108 := Aside0.mk (below_step B105.out hb_)
        have HO109 := Aside0.mk (Kd.R_below HO106.out hb_)
        clear hb_ B105 HO106
        go_wp2_with (first | ((with_reducible refine gate_dst (N := 12) rfl ?_); refine box_event ?hg (N := 12) ?hd (cs := #[.int .u8 0, .int .u8 0, .int .u8 0, .int .u8 0, .int .u8 0, .int .u8 0, .int .u8 0, .int .u8 0, .int .u8 0, .int .u8 0, .int .u8 0, .int .u8 0, .int .u8 0, .int .u8 0, .int .u8 0, .int .u8 0, .int .u8 0, .int .u8 0, .int .u8 0, .int .u8 0]) (t := 23) ?hr ?_; (case hd => rfl); (case hg => rfl); (case hr => first | (go_simp; done) | (go_simp; rfl)); intro g110 hgg110 w111 hhg110 hbg110; have H116 := Aside0.mk hhg110; have G112 : w1.heap.size ≤ g110 := Nat.le_trans B108.out.size (Nat.le_of_eq hgg110.symm); have G113 : w107.heap.size ≤ g110 := Nat.le_of_eq hgg110.symm; have B114 := Aside0.mk (below_step B108.out hbg110); have B115 := Aside0.mk (hbg110); clear hgg110 hhg110 hbg110 B108) | ((with_reducible refine gate_store (t := 23) (p := _) rfl ?_); refine storeN_event (T := 23) rfl rfl rfl rfl rfl (storeVar_blk H116.out 23 0 [.int .u8 (p 0), .int .u8 (p 1), .int .u8 (p 2), .int .u8 (p 3), .int .u8 (p 4), .int .u8 (p 5), .int .u8 (p 6), .int .u8 (p 7), .int .u8 (p 8), .int .u8 (p 9), .int .u8 (p 10), .int .u8 (p 11), .int .u8 (p 12), .int .u8 (p 13), .int .u8 (p 14), .int .u8 (p 15), .int .u8 (p 16), .int .u8 (p 17), .int .u8 (p 18), .int .u8 (p 19)] (by kernel_rfl) rfl (by simp)) ?_; have H118 := Aside0.mk (show (World.setCells w111 g110 0 [.int .u8 (p 0), .int .u8 (p 1), .int .u8 (p 2), .int .u8 (p 3), .int .u8 (p 4), .int .u8 (p 5), .int .u8 (p 6), .int .u8 (p 7), .int .u8 (p 8), .int .u8 (p 9), .int .u8 (p 10), .int .u8 (p 11), .int .u8 (p 12), .int .u8 (p 13), .int .u8 (p 14), .int .u8 (p 15), .int .u8 (p 16), .int .u8 (p 17), .int .u8 (p 18), .int .u8 (p 19)]).heap[g110]? = some (.cells #[.int .u8 (p 0), .int .u8 (p 1), .int .u8 (p 2), .int .u8 (p 3), .int .u8 (p 4), .int .u8 (p 5), .int .u8 (p 6), .int .u8 (p 7), .int .u8 (p 8), .int .u8 (p 9), .int .u8 (p 10), .int .u8 (p 11), .int .u8 (p 12), .int .u8 (p 13), .int .u8 (p 14), .int .u8 (p 15), .int .u8 (p 16), .int .u8 (p 17), .int .u8 (p 18), .int .u8 (p 19)] 23 (0, 0)) from blk_setCells [] [.int .u8 (p 0), .int .u8 (p 1), .int .u8 (p 2), .int .u8 (p 3), .int .u8 (p 4), .int .u8 (p 5), .int .u8 (p 6), .int .u8 (p 7), .int .u8 (p 8), .int .u8 (p 9), .int .u8 (p 10), .int .u8 (p 11), .int .u8 (p 12), .int .u8 (p 13), .int .u8 (p 14), .int .u8 (p 15), .int .u8 (p 16), .int .u8 (p 17), .int .u8 (p 18), .int .u8 (p 19)] [.int .u8 0, .int .u8 0, .int .u8 0, .int .u8 0, .int .u8 0, .int .u8 0, .int .u8 0, .int .u8 0, .int .u8 0, .int .u8 0, .int .u8 0, .int .u8 0, .int .u8 0, .int .u8 0, .int .u8 0, .int .u8 0, .int .u8 0, .int .u8 0, .int .u8 0, .int .u8 0] [] w111 rfl H116.out); have B119 := Aside0.mk (below_setCells G112 [.int .u8 (p 0), .int .u8 (p 1), .int .u8 (p 2), .int .u8 (p 3), .int .u8 (p 4), .int .u8 (p 5), .int .u8 (p 6), .int .u8 (p 7), .int .u8 (p 8), .int .u8 (p 9), .int .u8 (p 10), .int .u8 (p 11), .int .u8 (p 12), .int .u8 (p 13), .int .u8 (p 14), .int .u8 (p 15), .int .u8 (p 16), .int .u8 (p 17), .int .u8 (p 18), .int .u8 (p 19)] 0 w111 B114.out); have B120 := Aside0.mk (below_setCells G113 [.int .u8 (p 0), .int .u8 (p 1), .int .u8 (p 2), .int .u8 (p 3), .int .u8 (p 4), .int .u8 (p 5), .int .u8 (p 6), .int .u8 (p 7), .int .u8 (p 8), .int .u8 (p 9), .int .u8 (p 10), .int .u8 (p 11), .int .u8 (p 12), .int .u8 (p 13), .int .u8 (p 14), .int .u8 (p 15), .int .u8 (p 16), .int .u8 (p 17), .int .u8 (p 18), .int .u8 (p 19)] 0 w111 B115.out); clear H116 B114 B115; generalize World.setCells w111 g110 0 [.int .u8 (p 0), .int .u8 (p 1), .int .u8 (p 2), .int .u8 (p 3), .int .u8 (p 4), .int .u8 (p 5), .int .u8 (p 6), .int .u8 (p 7), .int .u8 (p 8), .int .u8 (p 9), .int .u8 (p 10), .int .u8 (p 11), .int .u8 (p 12), .int .u8 (p 13), .int .u8 (p 14), .int .u8 (p 15), .int .u8 (p 16), .int .u8 (p 17), .int .u8 (p 18), .int .u8 (p 19)] = w117 at H118 B119 B120 ⊢) | ((with_reducible refine gate_dst (N := 59) rfl ?_); refine loadG_event (T := 23) (by rfl) rfl rfl (run_loadVar_row _ _ _ _ _ (0, 0) _ H118.out Tryd.underlying23 rfl (by kernel_rfl)) ?_) | ((with_reducible refine gate_bltn (b := .append) (xs := #[.tmp 58, .tmp 60]) rfl ?_); at_builtin; refine Kd.R_append kdg (w0 := w1) w1.heap.size rfl (.tmp 58) (.tmp 60) 55 23 (.agg #[.int .u8 0, .int .u8 0, .int .u8 0, .int .u8 0, .int .u8 0, .int .u8 0, .int .u8 0, .int .u8 0, .int .u8 0, .int .u8 0, .int .u8 0, .int .u8 0, .int .u8 0, .int .u8 0, .int .u8 0, .int .u8 0, .int .u8 0, .int .u8 0, .int .u8 0, .int .u8 0]) 20 rfl Tryd.underlying55 info23p rfl (by decide) (by decide) _ acc p [.int .u8 (p 0), .int .u8 (p 1), .int .u8 (p 2), .int .u8 (p 3), .int .u8 (p 4), .int .u8 (p 5), .int .u8 (p 6), .int .u8 (p 7), .int .u8 (p 8), .int .u8 (p 9), .int .u8 (p 10), .int .u8 (p 11), .int .u8 (p 12), .int .u8 (p 13), .int .u8 (p 14), .int .u8 (p 15), .int .u8 (p 16), .int .u8 (p 17), .int .u8 (p 18), .int .u8 (p 19)] (fun _ => True) (fun _ => False) rfl rfl ?aP (fun _ hk => hk.elim) ?aF ?aO ?aB ?aS ?aL ?_; (case aP => exact dgM _ _ _ _); (case aB => first | exact B119.out | exact below_alloc B119.out _); (case aF => exact (fun _ _ => trivial)); (case aO => exact (by (with_reducible repeat (first | apply Kd.R_alloc)); exact (Kd.R_below HO109.out B120.out))); (case aS => first | exact below_size B119.out | exact below_size (below_alloc B119.out _)); (case aL => have := HN.out; omega); intro v200 w200 ho hb hg hat; have HO200 := Aside0.mk ho; have B200 := Aside0.mk hb; clear ho hb hg hat HO109 B119))
        go_roundg go
        case measure => have := HN.out; omega
        case rel =>
          refine ⟨k, j, A', c', l.take k, acc ++ [p], rfl, rfl, ⟨by rw [List.length_take, HN.out.1]; have := HF.out; omega, by have := HN.out; have := HF.out; omega, by have := HKJ.out; omega, by have := HN.out; have := HF.out; omega, by have := HN.out; have := HF.out; omega, by have := HN.out; have := HF.out; rw [List.length_append, List.length_singleton]; omega⟩, HCT, HO200, ⟨?_⟩, B200⟩
          rw [← HP.out, pwr_left rt go l j (by rw [HN.out.1]; exact H1.out) (by rw [HN.out.1, ← HK.out]; exact HKJ.out), HN.out.1, ← HK.out, ← HX0.out, ← HP0.out, List.append_assoc]
          rfl
    · have f1 : (1 < (n : Int)) = False := eq_false (by omega)
      have f2 : (1 < n) = False := eq_false h1
      have H1 := Aside0.mk h1
      have HQ : Aside0 (acc = pwr rt ds.length ds i) := ⟨by rw [← HP.out, pwr_end rt _ l j (by have := HN.out; have := H1.out; omega), List.append_nil]⟩
      clear h1
      go_wp2_with fail
      refine (revd_calls _ HO.out (by have := HN.out; omega)).mono ?_
      rintro e w3 ⟨rfl, hR_, hk_⟩
      have HR3 := Aside0.mk hR_
      have HB3 := Aside0.mk (hk_ w1 (Nat.le_refl _) BB.out)
      clear hR_ hk_
      go_wp2_with fail
      go_ret2
      exact ⟨_, rfl, by rw [← HQ.out]; exact Kd.R_lower HR3.out (below_size BA.out), below_step BA.out HB3.out⟩
end Go.Proofs.YtbldecdipicddaaDoor.Hand
