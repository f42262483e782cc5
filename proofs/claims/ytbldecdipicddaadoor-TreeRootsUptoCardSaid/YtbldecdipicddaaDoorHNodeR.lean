/- Leaves and nodes of the reference's tree. Laid by wip/s1/split41.py. -/
import Derived.Test.YtbldecdipicddaaDoorHNode
import Derived.Test.YtbldecdipicddaaDoorShaMath2
set_option linter.unusedSimpArgs false
set_option linter.unusedVariables false
namespace Go.Proofs.YtbldecdipicddaaDoor.Hand
open Go Go.RowKit Go.Proofs.YtbldecdipicddaaDoorW.PrintWords Go.Proofs.YtbldecdipicddaaDoorW.PrintLast
theorem node_of (a b : Dg) (ha : dgr a) (hb : dgr b) (A1 : Option Addr) (c1 : Nat) (W : World) (hC : Kd.C (Kd.int .u8) W A1 (([1] ++ dgl a) ++ dgl b).length (([1] ++ dgl a) ++ dgl b)) :
    Calls Tryd.prog 80 #[.slice A1 (([1] ++ dgl a) ++ dgl b).length c1] W fun e w' => e = .returned (.agg #[.int .u8 (ndg a b 0), .int .u8 (ndg a b 1), .int .u8 (ndg a b 2), .int .u8 (ndg a b 3), .int .u8 (ndg a b 4), .int .u8 (ndg a b 5), .int .u8 (ndg a b 6), .int .u8 (ndg a b 7), .int .u8 (ndg a b 8), .int .u8 (ndg a b 9), .int .u8 (ndg a b 10), .int .u8 (ndg a b 11), .int .u8 (ndg a b 12), .int .u8 (ndg a b 13), .int .u8 (ndg a b 14), .int .u8 (ndg a b 15), .int .u8 (ndg a b 16), .int .u8 (ndg a b 17), .int .u8 (ndg a b 18), .int .u8 (ndg a b 19)]) ∧ Below W.heap.size W w' := of_c A1 c1 _ W hC (by show 41 ≤ 20000; decide) (fun z hz => by
  rcases List.mem_append.1 hz with hz | hz
  · rcases List.mem_append.1 hz with hz | hz
    · simp at hz; omega
    · exact dgl_rng ha z hz
  · exact dgl_rng hb z hz)
theorem leaf_of (l : List Int) (hl : l.length ≤ 10000) (hb : ∀ z ∈ l, 0 ≤ z ∧ z < 256) (A1 : Option Addr) (c1 : Nat) (W : World) (hC : Kd.C (Kd.int .u8) W A1 ([0] ++ l).length ([0] ++ l)) :
    Calls Tryd.prog 80 #[.slice A1 ([0] ++ l).length c1] W fun e w' => e = .returned (.agg #[.int .u8 (lfg l 0), .int .u8 (lfg l 1), .int .u8 (lfg l 2), .int .u8 (lfg l 3), .int .u8 (lfg l 4), .int .u8 (lfg l 5), .int .u8 (lfg l 6), .int .u8 (lfg l 7), .int .u8 (lfg l 8), .int .u8 (lfg l 9), .int .u8 (lfg l 10), .int .u8 (lfg l 11), .int .u8 (lfg l 12), .int .u8 (lfg l 13), .int .u8 (lfg l 14), .int .u8 (lfg l 15), .int .u8 (lfg l 16), .int .u8 (lfg l 17), .int .u8 (lfg l 18), .int .u8 (lfg l 19)]) ∧ Below W.heap.size W w' := of_c A1 c1 _ W hC (by rw [List.length_append]; show 1 + l.length ≤ _; omega) (fun z hz => by
  rcases List.mem_append.1 hz with hz | hz
  · simp at hz; omega
  · exact hb z hz)
set_option maxHeartbeats 800000 in
set_option maxRecDepth 100000 in
theorem rnode_walk (a b : Dg) (w : World) (n : Dg) (hs : ∀ (W : World) (A1 : Option Addr) (c1 : Nat), Kd.C (Kd.int .u8) W A1 (([1] ++ dgl a) ++ dgl b).length (([1] ++ dgl a) ++ dgl b) → Calls Tryd.prog 80 #[.slice A1 (([1] ++ dgl a) ++ dgl b).length c1] W fun e w' => e = .returned (.agg #[.int .u8 (n 0), .int .u8 (n 1), .int .u8 (n 2), .int .u8 (n 3), .int .u8 (n 4), .int .u8 (n 5), .int .u8 (n 6), .int .u8 (n 7), .int .u8 (n 8), .int .u8 (n 9), .int .u8 (n 10), .int .u8 (n 11), .int .u8 (n 12), .int .u8 (n 13), .int .u8 (n 14), .int .u8 (n 15), .int .u8 (n 16), .int .u8 (n 17), .int .u8 (n 18), .int .u8 (n 19)]) ∧ Below W.heap.size W w') : Calls Tryd.prog 100 #[.agg #[.int .u8 (a 0), .int .u8 (a 1), .int .u8 (a 2), .int .u8 (a 3), .int .u8 (a 4), .int .u8 (a 5), .int .u8 (a 6), .int .u8 (a 7), .int .u8 (a 8), .int .u8 (a 9), .int .u8 (a 10), .int .u8 (a 11), .int .u8 (a 12), .int .u8 (a 13), .int .u8 (a 14), .int .u8 (a 15), .int .u8 (a 16), .int .u8 (a 17), .int .u8 (a 18), .int .u8 (a 19)], .agg #[.int .u8 (b 0), .int .u8 (b 1), .int .u8 (b 2), .int .u8 (b 3), .int .u8 (b 4), .int .u8 (b 5), .int .u8 (b 6), .int .u8 (b 7), .int .u8 (b 8), .int .u8 (b 9), .int .u8 (b 10), .int .u8 (b 11), .int .u8 (b 12), .int .u8 (b 13), .int .u8 (b 14), .int .u8 (b 15), .int .u8 (b 16), .int .u8 (b 17), .int .u8 (b 18), .int .u8 (b 19)]] w fun e w' => e = .returned (.agg #[.int .u8 (n 0), .int .u8 (n 1), .int .u8 (n 2), .int .u8 (n 3), .int .u8 (n 4), .int .u8 (n 5), .int .u8 (n 6), .int .u8 (n 7), .int .u8 (n 8), .int .u8 (n 9), .int .u8 (n 10), .int .u8 (n 11), .int .u8 (n 12), .int .u8 (n 13), .int .u8 (n 14), .int .u8 (n 15), .int .u8 (n 16), .int .u8 (n 17), .int .u8 (n 18), .int .u8 (n 19)]) ∧ Below w.heap.size w w' := by
  have HS := Aside0.mk hs
  clear hs
  go_enter Tryd.func100, Tryd.ntmps100
  go_wp2_with (first | ((with_reducible refine gate_dst (N := 2) rfl ?_); refine box_event ?hg (N := 2) ?hd (cs := #[.int .u8 (a 0), .int .u8 (a 1), .int .u8 (a 2), .int .u8 (a 3), .int .u8 (a 4), .int .u8 (a 5), .int .u8 (a 6), .int .u8 (a 7), .int .u8 (a 8), .int .u8 (a 9), .int .u8 (a 10), .int .u8 (a 11), .int .u8 (a 12), .int .u8 (a 13), .int .u8 (a 14), .int .u8 (a 15), .int .u8 (a 16), .int .u8 (a 17), .int .u8 (a 18), .int .u8 (a 19)]) (t := 23) ?hr ?_; (case hd => rfl); (case hg => rfl); (case hr => first | (go_simp; done) | (go_simp; rfl)); intro g1 hgg1 w2 hhg1 hbg1; have H5 := Aside0.mk hhg1; have G3 : w.heap.size ≤ g1 := Nat.le_of_eq hgg1.symm; have B4 := Aside0.mk (hbg1); clear hgg1 hhg1 hbg1) | ((with_reducible refine gate_dst (N := 3) rfl ?_); refine box_event ?hg (N := 3) ?hd (cs := #[.int .u8 (b 0), .int .u8 (b 1), .int .u8 (b 2), .int .u8 (b 3), .int .u8 (b 4), .int .u8 (b 5), .int .u8 (b 6), .int .u8 (b 7), .int .u8 (b 8), .int .u8 (b 9), .int .u8 (b 10), .int .u8 (b 11), .int .u8 (b 12), .int .u8 (b 13), .int .u8 (b 14), .int .u8 (b 15), .int .u8 (b 16), .int .u8 (b 17), .int .u8 (b 18), .int .u8 (b 19)]) (t := 23) ?hr ?_; (case hd => rfl); (case hg => rfl); (case hr => first | (go_simp; done) | (go_simp; rfl)); intro g6 hgg6 w7 hhg6 hbg6; have H12 := Aside0.mk hhg6; have N8 : g1 ≠ g6 := Nat.ne_of_lt (Nat.lt_of_lt_of_eq (blk_lt H5.out) hgg6.symm); have G9 : w.heap.size ≤ g6 := Nat.le_trans B4.out.size (Nat.le_of_eq hgg6.symm); have B10 := Aside0.mk (below_step B4.out hbg6); have H11 := Aside0.mk (blk_below H5.out hbg6); clear hgg6 hhg6 hbg6 B4 H5) | ((with_reducible refine gate_dst (N := 4) rfl ?_); refine box_event ?hg (N := 4) ?hd (cs := #[.int .u8 0, .int .u8 0, .int .u8 0, .int .u8 0, .int .u8 0, .int .u8 0, .int .u8 0, .int .u8 0, .int .u8 0, .int .u8 0, .int .u8 0, .int .u8 0, .int .u8 0, .int .u8 0, .int .u8 0, .int .u8 0, .int .u8 0, .int .u8 0, .int .u8 0, .int .u8 0]) (t := 23) ?hr ?_; (case hd => rfl); (case hg => rfl); (case hr => first | (go_simp; done) | (go_simp; rfl)); intro g13 hgg13 w14 hhg13 hbg13; have H21 := Aside0.mk hhg13; have N15 : g1 ≠ g13 := Nat.ne_of_lt (Nat.lt_of_lt_of_eq (blk_lt H11.out) hgg13.symm); have N16 : g6 ≠ g13 := Nat.ne_of_lt (Nat.lt_of_lt_of_eq (blk_lt H12.out) hgg13.symm); have G17 : w.heap.size ≤ g13 := Nat.le_trans B10.out.size (Nat.le_of_eq hgg13.symm); have B18 := Aside0.mk (below_step B10.out hbg13); have H19 := Aside0.mk (blk_below H11.out hbg13); have H20 := Aside0.mk (blk_below H12.out hbg13); clear hgg13 hhg13 hbg13 B10 H11 H12))
  have H23 := Aside0.mk (blk_drew H19.out)
  have H24 := Aside0.mk (blk_drew H20.out)
  have H25 := Aside0.mk (blk_drew H21.out)
  have B26 := Aside0.mk (below_drew B18.out)
  clear H19 H20 H21 B18
  refine start_ (n := 7) (S := fun w' => True) (ds := [6]) #[false, false, false, false, false, false, false] (by kernel_rfl) rfl rfl trivial (fun hHeld => ?_)
  generalize World.drew w14 = w22 at H23 H24 H25 B26 hHeld ⊢
  refine pure_ (i := 1) (N := some 6) (v := ?_) (a' := ?_) #[false, true, false, false, false, false, false] rfl rfl (by kernel_rfl) (fun _ _ _ h => h) (Or.inl ⟨by rfl, ?_⟩) ?_ ?_
  rotate_left
  · intro w'
    go_simp
    with_reducible rfl
  rotate_left
  · simp only [Act.put, List.setIfInBounds_toArray, List.set_cons_zero, List.set_cons_succ, i64_w, i32_w]
    rfl
  refine pure_ (i := 3) (N := some 8) (v := ?_) (a' := ?_) #[false, true, false, true, false, false, false] rfl rfl (by kernel_rfl) (fun _ _ _ h => h) (Or.inl ⟨by rfl, ?_⟩) ?_ ?_
  rotate_left
  · intro w'
    go_simp
    with_reducible rfl
  rotate_left
  · simp only [Act.put, List.setIfInBounds_toArray, List.set_cons_zero, List.set_cons_succ, i64_w, i32_w]
    rfl
  refine one_ (i := 0) (N := some 5) #[true, true, false, true, false, false, false] rfl rfl (by kernel_rfl) (by decide) (fun K hK => ?_)
  refine Kd.R_lit_step (Kd.int .u8) (w0 := w) _ 5 (by rfl) (N := 5) (by rfl) (xs := ([1] : List Int)) (inner := [.int .u8 (1)]) (ok := fun _ => True) (okp := fun _ => True) ?hr ?hp (fun _ hk => hk) trivial B26.out (below_size B26.out) (by simp) ?_
  (case hr => first | (go_simp; done) | (go_simp; rfl))
  (case hp => exact reps_ints .u8 [1])
  intro v28 w27 ho_ hb_ hg_ _
  have HO29 := Aside0.mk ho_
  have H30 := Aside0.mk (blk_grown H23.out hg_ (by simp))
  have H31 := Aside0.mk (blk_grown H24.out hg_ (by simp))
  have H32 := Aside0.mk (blk_grown H25.out hg_ (by simp))
  have B33 := Aside0.mk hb_
  clear ho_ hb_ hg_ H23 H24 H25 B26
  refine hK.out _ _ trivial (fun hHeld => ?_)
  clear hK K
  refine norm_ (a' := ?_) ?_ ?_
  rotate_left
  · show Act.put _ (some 5) _ = _
    simp only [Act.put, List.setIfInBounds_toArray, List.set_cons_zero, List.set_cons_succ, i64_w, i32_w]
    rfl
  refine one_ (i := 2) (N := some 7) #[true, true, true, true, false, false, false] rfl rfl (by kernel_rfl) (by decide) (fun K hK => ?_)
  refine Kd.R_append_rows_step (Kd.int .u8) (w0 := w) w.heap.size (by rfl) (.tmp 5) (.tmp 6) 26 5 (.int .u8 0) 1 rfl Tryd.underlying26 info5p rfl (by decide) (by omega) _ [1] (dgl a) _ _ _ (fun _ => True) (fun _ => False) rfl rfl ?aO ?aR (fun _ _ h => h) (fun _ h => h.elim) ?aF ?aB ?aS ?aL ?_
  (case aR => exact (bytes_at (l := dgl a) H30.out (dgl_le _)))
  (case aB => exact B33.out)
  (case aF => exact (fun _ _ => trivial))
  (case aO => exact HO29.out)
  (case aS => exact below_size B33.out)
  (case aL => exact app21 a _ rfl)
  intro v35 w34 ho hb hg hat
  have HO36 := Aside0.mk ho
  have H37 := Aside0.mk (blk_grown H30.out hg (Kd.R_ne HO29.out H30.out (by decide)))
  have H38 := Aside0.mk (blk_grown H31.out hg (Kd.R_ne HO29.out H31.out (by decide)))
  have H39 := Aside0.mk (blk_grown H32.out hg (Kd.R_ne HO29.out H32.out (by decide)))
  have B40 := Aside0.mk hb
  clear ho hb hg hat HO29 H30 H31 H32 B33
  refine hK.out _ _ trivial (fun hHeld => ?_)
  clear hK K
  refine norm_ (a' := ?_) ?_ ?_
  rotate_left
  · show Act.put _ (some 7) _ = _
    simp only [Act.put, List.setIfInBounds_toArray, List.set_cons_zero, List.set_cons_succ, i64_w, i32_w]
    rfl
  refine one_ (i := 4) (N := some 9) #[true, true, true, true, true, false, false] rfl rfl (by kernel_rfl) (by decide) (fun K hK => ?_)
  refine Kd.R_append_rows_step (Kd.int .u8) (w0 := w) w.heap.size (by rfl) (.tmp 7) (.tmp 8) 26 5 (.int .u8 0) 1 rfl Tryd.underlying26 info5p rfl (by decide) (by omega) _ ([1] ++ (dgl a)) (dgl b) _ _ _ (fun _ => True) (fun _ => False) rfl rfl ?aO ?aR (fun _ _ h => h) (fun _ h => h.elim) ?aF ?aB ?aS ?aL ?_
  (case aR => exact (bytes_at (l := dgl b) H38.out (dgl_le _)))
  (case aB => exact B40.out)
  (case aF => exact (fun _ _ => trivial))
  (case aO => exact HO36.out)
  (case aS => exact below_size B40.out)
  (case aL => exact app41 a _ rfl)
  intro v42 w41 ho hb hg hat
  have HO43 := Aside0.mk ho
  have H44 := Aside0.mk (blk_grown H37.out hg (Kd.R_ne HO36.out H37.out (by decide)))
  have H45 := Aside0.mk (blk_grown H38.out hg (Kd.R_ne HO36.out H38.out (by decide)))
  have H46 := Aside0.mk (blk_grown H39.out hg (Kd.R_ne HO36.out H39.out (by decide)))
  have B47 := Aside0.mk hb
  clear ho hb hg hat HO36 H37 H38 H39 B40
  refine hK.out _ _ trivial (fun hHeld => ?_)
  clear hK K
  refine norm_ (a' := ?_) ?_ ?_
  rotate_left
  · show Act.put _ (some 9) _ = _
    simp only [Act.put, List.setIfInBounds_toArray, List.set_cons_zero, List.set_cons_succ, i64_w, i32_w]
    rfl
  refine one_ (i := 5) (N := some 10) #[true, true, true, true, true, true, false] rfl rfl (by kernel_rfl) (by decide) (fun K hK => ?_)
  obtain ⟨rx, c_rx, rfl, hle_, hC_⟩ := Kd.R_reads HO43.out
  have R48 := Aside0.mk hC_
  have L49 := Aside0.mk hle_
  clear hle_ hC_ HO43
  refine goes_ Tryd.func80 (by kernel_rfl) rfl #[.slice rx (([1] ++ dgl a) ++ dgl b).length c_rx] (by rfl) rfl rfl (by simp only [List.map_toArray, List.map_cons, List.map_nil]; rfl) ?_
  with_reducible refine ((HS.out w41 rx c_rx (Kd.C_below R48.out (Below.refl _ _)))).mono ?_
  rintro e_ w50 ⟨rfl, hb_⟩
  refine ⟨_, rfl, ?_⟩
  have B51 := Aside0.mk (below_step B47.out hb_)
  have B52 := Aside0.mk (hb_)
  have H53 := Aside0.mk (blk_below H44.out hb_)
  have H54 := Aside0.mk (blk_below H45.out hb_)
  have H55 := Aside0.mk (blk_below H46.out hb_)
  clear hb_ B47 H44 H45 H46
  refine hK.out _ _ trivial (fun hHeld => ?_)
  clear hK K
  refine norm_ (a' := ?_) ?_ ?_
  rotate_left
  · show Act.put _ (some 10) _ = _
    simp only [Act.put, List.setIfInBounds_toArray, List.set_cons_zero, List.set_cons_succ, i64_w, i32_w]
    rfl
  refine last_ (i := 6) (N := none) #[true, true, true, true, true, true, true] rfl rfl (by kernel_rfl) (by decide) (fun K hK => ?_)
  refine skip_ (w1 := World.setCells w50 g13 0 [.int .u8 (n 0), .int .u8 (n 1), .int .u8 (n 2), .int .u8 (n 3), .int .u8 (n 4), .int .u8 (n 5), .int .u8 (n 6), .int .u8 (n 7), .int .u8 (n 8), .int .u8 (n 9), .int .u8 (n 10), .int .u8 (n 11), .int .u8 (n 12), .int .u8 (n 13), .int .u8 (n 14), .int .u8 (n 15), .int .u8 (n 16), .int .u8 (n 17), .int .u8 (n 18), .int .u8 (n 19)]) (by rfl) rfl (by exact storeN_run (T := 23) (vs := [.int .u8 (n 0), .int .u8 (n 1), .int .u8 (n 2), .int .u8 (n 3), .int .u8 (n 4), .int .u8 (n 5), .int .u8 (n 6), .int .u8 (n 7), .int .u8 (n 8), .int .u8 (n 9), .int .u8 (n 10), .int .u8 (n 11), .int .u8 (n 12), .int .u8 (n 13), .int .u8 (n 14), .int .u8 (n 15), .int .u8 (n 16), .int .u8 (n 17), .int .u8 (n 18), .int .u8 (n 19)]) rfl rfl rfl (storeVar_blk H55.out 23 0 [.int .u8 (n 0), .int .u8 (n 1), .int .u8 (n 2), .int .u8 (n 3), .int .u8 (n 4), .int .u8 (n 5), .int .u8 (n 6), .int .u8 (n 7), .int .u8 (n 8), .int .u8 (n 9), .int .u8 (n 10), .int .u8 (n 11), .int .u8 (n 12), .int .u8 (n 13), .int .u8 (n 14), .int .u8 (n 15), .int .u8 (n 16), .int .u8 (n 17), .int .u8 (n 18), .int .u8 (n 19)] (by kernel_rfl) rfl (by simp))) ?_
  have H57 := Aside0.mk (show (World.setCells w50 g13 0 [.int .u8 (n 0), .int .u8 (n 1), .int .u8 (n 2), .int .u8 (n 3), .int .u8 (n 4), .int .u8 (n 5), .int .u8 (n 6), .int .u8 (n 7), .int .u8 (n 8), .int .u8 (n 9), .int .u8 (n 10), .int .u8 (n 11), .int .u8 (n 12), .int .u8 (n 13), .int .u8 (n 14), .int .u8 (n 15), .int .u8 (n 16), .int .u8 (n 17), .int .u8 (n 18), .int .u8 (n 19)]).heap[g13]? = some (.cells #[.int .u8 (n 0), .int .u8 (n 1), .int .u8 (n 2), .int .u8 (n 3), .int .u8 (n 4), .int .u8 (n 5), .int .u8 (n 6), .int .u8 (n 7), .int .u8 (n 8), .int .u8 (n 9), .int .u8 (n 10), .int .u8 (n 11), .int .u8 (n 12), .int .u8 (n 13), .int .u8 (n 14), .int .u8 (n 15), .int .u8 (n 16), .int .u8 (n 17), .int .u8 (n 18), .int .u8 (n 19)] 23 (0, 0)) from blk_setCells [] [.int .u8 (n 0), .int .u8 (n 1), .int .u8 (n 2), .int .u8 (n 3), .int .u8 (n 4), .int .u8 (n 5), .int .u8 (n 6), .int .u8 (n 7), .int .u8 (n 8), .int .u8 (n 9), .int .u8 (n 10), .int .u8 (n 11), .int .u8 (n 12), .int .u8 (n 13), .int .u8 (n 14), .int .u8 (n 15), .int .u8 (n 16), .int .u8 (n 17), .int .u8 (n 18), .int .u8 (n 19)] [.int .u8 0, .int .u8 0, .int .u8 0, .int .u8 0, .int .u8 0, .int .u8 0, .int .u8 0, .int .u8 0, .int .u8 0, .int .u8 0, .int .u8 0, .int .u8 0, .int .u8 0, .int .u8 0, .int .u8 0, .int .u8 0, .int .u8 0, .int .u8 0, .int .u8 0, .int .u8 0] [] w50 rfl H55.out)
  have H58 := Aside0.mk (far_setCells N15 [.int .u8 (n 0), .int .u8 (n 1), .int .u8 (n 2), .int .u8 (n 3), .int .u8 (n 4), .int .u8 (n 5), .int .u8 (n 6), .int .u8 (n 7), .int .u8 (n 8), .int .u8 (n 9), .int .u8 (n 10), .int .u8 (n 11), .int .u8 (n 12), .int .u8 (n 13), .int .u8 (n 14), .int .u8 (n 15), .int .u8 (n 16), .int .u8 (n 17), .int .u8 (n 18), .int .u8 (n 19)] 0 w50 H53.out)
  have H59 := Aside0.mk (far_setCells N16 [.int .u8 (n 0), .int .u8 (n 1), .int .u8 (n 2), .int .u8 (n 3), .int .u8 (n 4), .int .u8 (n 5), .int .u8 (n 6), .int .u8 (n 7), .int .u8 (n 8), .int .u8 (n 9), .int .u8 (n 10), .int .u8 (n 11), .int .u8 (n 12), .int .u8 (n 13), .int .u8 (n 14), .int .u8 (n 15), .int .u8 (n 16), .int .u8 (n 17), .int .u8 (n 18), .int .u8 (n 19)] 0 w50 H54.out)
  have B60 := Aside0.mk (below_setCells G17 [.int .u8 (n 0), .int .u8 (n 1), .int .u8 (n 2), .int .u8 (n 3), .int .u8 (n 4), .int .u8 (n 5), .int .u8 (n 6), .int .u8 (n 7), .int .u8 (n 8), .int .u8 (n 9), .int .u8 (n 10), .int .u8 (n 11), .int .u8 (n 12), .int .u8 (n 13), .int .u8 (n 14), .int .u8 (n 15), .int .u8 (n 16), .int .u8 (n 17), .int .u8 (n 18), .int .u8 (n 19)] 0 w50 B51.out)
  clear H55 H53 H54 B51
  generalize World.setCells w50 g13 0 [.int .u8 (n 0), .int .u8 (n 1), .int .u8 (n 2), .int .u8 (n 3), .int .u8 (n 4), .int .u8 (n 5), .int .u8 (n 6), .int .u8 (n 7), .int .u8 (n 8), .int .u8 (n 9), .int .u8 (n 10), .int .u8 (n 11), .int .u8 (n 12), .int .u8 (n 13), .int .u8 (n 14), .int .u8 (n 15), .int .u8 (n 16), .int .u8 (n 17), .int .u8 (n 18), .int .u8 (n 19)] = w56 at H58 H59 H57 B60 ⊢
  refine hK.out _ _ ?_
  clear hK K
  refine done_ (by kernel_rfl) ?_
  go_wp2_with fail
  exact bodyPost_ret (results_cell_row rfl _ _ g13 23 #[.int .u8 (n 0), .int .u8 (n 1), .int .u8 (n 2), .int .u8 (n 3), .int .u8 (n 4), .int .u8 (n 5), .int .u8 (n 6), .int .u8 (n 7), .int .u8 (n 8), .int .u8 (n 9), .int .u8 (n 10), .int .u8 (n 11), .int .u8 (n 12), .int .u8 (n 13), .int .u8 (n 14), .int .u8 (n 15), .int .u8 (n 16), .int .u8 (n 17), .int .u8 (n 18), .int .u8 (n 19)] (0, 0) _ rfl H57.out Tryd.underlying23 rfl (by kernel_rfl)) rfl ⟨rfl, B60.out⟩
theorem rnode_calls (a b : Dg) (ha : dgr a) (hb : dgr b) (w : World) : Calls Tryd.prog 100 #[.agg #[.int .u8 (a 0), .int .u8 (a 1), .int .u8 (a 2), .int .u8 (a 3), .int .u8 (a 4), .int .u8 (a 5), .int .u8 (a 6), .int .u8 (a 7), .int .u8 (a 8), .int .u8 (a 9), .int .u8 (a 10), .int .u8 (a 11), .int .u8 (a 12), .int .u8 (a 13), .int .u8 (a 14), .int .u8 (a 15), .int .u8 (a 16), .int .u8 (a 17), .int .u8 (a 18), .int .u8 (a 19)], .agg #[.int .u8 (b 0), .int .u8 (b 1), .int .u8 (b 2), .int .u8 (b 3), .int .u8 (b 4), .int .u8 (b 5), .int .u8 (b 6), .int .u8 (b 7), .int .u8 (b 8), .int .u8 (b 9), .int .u8 (b 10), .int .u8 (b 11), .int .u8 (b 12), .int .u8 (b 13), .int .u8 (b 14), .int .u8 (b 15), .int .u8 (b 16), .int .u8 (b 17), .int .u8 (b 18), .int .u8 (b 19)]] w fun e w' => e = .returned (.agg #[.int .u8 (ndg a b 0), .int .u8 (ndg a b 1), .int .u8 (ndg a b 2), .int .u8 (ndg a b 3), .int .u8 (ndg a b 4), .int .u8 (ndg a b 5), .int .u8 (ndg a b 6), .int .u8 (ndg a b 7), .int .u8 (ndg a b 8), .int .u8 (ndg a b 9), .int .u8 (ndg a b 10), .int .u8 (ndg a b 11), .int .u8 (ndg a b 12), .int .u8 (ndg a b 13), .int .u8 (ndg a b 14), .int .u8 (ndg a b 15), .int .u8 (ndg a b 16), .int .u8 (ndg a b 17), .int .u8 (ndg a b 18), .int .u8 (ndg a b 19)]) ∧ Below w.heap.size w w' := rnode_walk a b w (ndg a b) (fun W A1 c1 hC => node_of a b ha hb A1 c1 W hC)
set_option maxHeartbeats 800000 in
set_option maxRecDepth 100000 in
theorem rleaf0_walk (A : Option Addr) (c : Nat) (l : List Int) (w : World) (hr : Kd.C (Kd.int .u8) w A l.length l) (hlen : l.length ≤ 10000) (n : Dg) (hs : ∀ (W : World) (A1 : Option Addr) (c1 : Nat), Kd.C (Kd.int .u8) W A1 ([0] ++ l).length ([0] ++ l) → Calls Tryd.prog 80 #[.slice A1 ([0] ++ l).length c1] W fun e w' => e = .returned (.agg #[.int .u8 (n 0), .int .u8 (n 1), .int .u8 (n 2), .int .u8 (n 3), .int .u8 (n 4), .int .u8 (n 5), .int .u8 (n 6), .int .u8 (n 7), .int .u8 (n 8), .int .u8 (n 9), .int .u8 (n 10), .int .u8 (n 11), .int .u8 (n 12), .int .u8 (n 13), .int .u8 (n 14), .int .u8 (n 15), .int .u8 (n 16), .int .u8 (n 17), .int .u8 (n 18), .int .u8 (n 19)]) ∧ Below W.heap.size W w') : Calls Tryd.prog 85 #[.slice A l.length c] w fun e w' => e = .returned (.agg #[.int .u8 (n 0), .int .u8 (n 1), .int .u8 (n 2), .int .u8 (n 3), .int .u8 (n 4), .int .u8 (n 5), .int .u8 (n 6), .int .u8 (n 7), .int .u8 (n 8), .int .u8 (n 9), .int .u8 (n 10), .int .u8 (n 11), .int .u8 (n 12), .int .u8 (n 13), .int .u8 (n 14), .int .u8 (n 15), .int .u8 (n 16), .int .u8 (n 17), .int .u8 (n 18), .int .u8 (n 19)]) ∧ Below w.heap.size w w' := by
  have Hhr := Aside0.mk hr
  have Hhlen := Aside0.mk hlen
  have Hhs := Aside0.mk hs
  clear hr hlen hs
  go_enter Tryd.func85, Tryd.ntmps85
  go_wp2_with (first | ((with_reducible refine gate_dst (N := 2) rfl ?_); refine box_event ?hg (N := 2) ?hd (cs := #[.int .u8 0, .int .u8 0, .int .u8 0, .int .u8 0, .int .u8 0, .int .u8 0, .int .u8 0, .int .u8 0, .int .u8 0, .int .u8 0, .int .u8 0, .int .u8 0, .int .u8 0, .int .u8 0, .int .u8 0, .int .u8 0, .int .u8 0, .int .u8 0, .int .u8 0, .int .u8 0]) (t := 23) ?hr ?_; (case hd => rfl); (case hg => rfl); (case hr => first | (go_simp; done) | (go_simp; rfl)); intro g1 hgg1 w2 hhg1 hbg1; have H5 := Aside0.mk hhg1; have G3 : w.heap.size ≤ g1 := Nat.le_of_eq hgg1.symm; have B4 := Aside0.mk (hbg1); clear hgg1 hhg1 hbg1) | ((with_reducible refine gate_dst (N := 3) rfl ?_); refine Kd.R_lit (Kd.int .u8) (w0 := w) _ 5 ?hg (N := 3) ?hd (xs := ([0] : List Int)) (inner := [.int .u8 (0)]) (ok := fun _ => True) (okp := fun _ => True) ?hr ?hp (fun _ hk => hk) trivial B4.out (below_size B4.out) (by simp) ?_; (case hd => rfl); (case hg => rfl); (case hr => first | (go_simp; done) | (go_simp; rfl) | (go_simp; simp only [IntKind.wrap_u8]; done) | (go_simp; simp only [IntKind.wrap_u8]; rfl)); (case hp => exact reps_ints .u8 [0]); intro v7 w6 ho_ hb_ hg_ _; have HO8 := Aside0.mk ho_; have H9 := Aside0.mk (blk_grown H5.out hg_ (by simp)); have B10 := Aside0.mk hb_; clear ho_ hb_ hg_ H5 B4) | ((with_reducible refine gate_dst (N := 5) rfl ?_); (with_reducible refine gate_builtin (b := .append) (xs := #[.tmp 3, .tmp 4]) rfl ?_); at_builtin; refine Kd.R_append_rows (Kd.int .u8) (w0 := w) w.heap.size rfl (.tmp 3) (.tmp 4) 26 5 (.int .u8 0) 1 rfl Tryd.underlying26 info5p rfl (by decide) (by omega) _ [0] l _ _ _ (fun _ => True) (fun _ => False) rfl rfl ?aO ?aR (fun _ _ h => h) (fun _ h => h.elim) ?aF ?aB ?aS ?aL ?_; (case aR => exact (Kd.C_below Hhr.out B10.out)); (case aB => exact B10.out); (case aF => exact (fun _ _ => trivial)); (case aO => exact HO8.out); (case aS => exact below_size B10.out); (case aL => have := Hhlen.out; simp only [List.length_cons, List.length_nil]; omega); intro v12 w11 ho hb hg hat; have HO13 := Aside0.mk ho; have H14 := Aside0.mk (blk_grown H9.out hg (Kd.R_ne HO8.out H9.out (by decide))); have B15 := Aside0.mk hb; clear ho hb hg hat HO8 H9 B10))
  obtain ⟨rx, c_rx, rfl, hle_, hC_⟩ := Kd.R_reads HO13.out
  have R16 := Aside0.mk hC_
  have L17 := Aside0.mk hle_
  clear hle_ hC_ HO13
  go_wp2_with fail
  refine (Hhs.out w11 rx c_rx (Kd.C_below R16.out (Below.refl _ _))).mono ?_
  rintro e w18 ⟨rfl, hb_⟩
  have B19 := Aside0.mk (below_step B15.out hb_)
  have B20 := Aside0.mk (hb_)
  have H21 := Aside0.mk (blk_below H14.out hb_)
  clear hb_ B15 H14
  go_wp2_with (first | ((with_reducible refine gate_store (t := 23) (p := _) rfl ?_); refine storeN_event (T := 23) rfl rfl rfl rfl rfl (storeVar_blk H21.out 23 0 [.int .u8 (n 0), .int .u8 (n 1), .int .u8 (n 2), .int .u8 (n 3), .int .u8 (n 4), .int .u8 (n 5), .int .u8 (n 6), .int .u8 (n 7), .int .u8 (n 8), .int .u8 (n 9), .int .u8 (n 10), .int .u8 (n 11), .int .u8 (n 12), .int .u8 (n 13), .int .u8 (n 14), .int .u8 (n 15), .int .u8 (n 16), .int .u8 (n 17), .int .u8 (n 18), .int .u8 (n 19)] (by kernel_rfl) rfl (by simp)) ?_; have H23 := Aside0.mk (show (World.setCells w18 g1 0 [.int .u8 (n 0), .int .u8 (n 1), .int .u8 (n 2), .int .u8 (n 3), .int .u8 (n 4), .int .u8 (n 5), .int .u8 (n 6), .int .u8 (n 7), .int .u8 (n 8), .int .u8 (n 9), .int .u8 (n 10), .int .u8 (n 11), .int .u8 (n 12), .int .u8 (n 13), .int .u8 (n 14), .int .u8 (n 15), .int .u8 (n 16), .int .u8 (n 17), .int .u8 (n 18), .int .u8 (n 19)]).heap[g1]? = some (.cells #[.int .u8 (n 0), .int .u8 (n 1), .int .u8 (n 2), .int .u8 (n 3), .int .u8 (n 4), .int .u8 (n 5), .int .u8 (n 6), .int .u8 (n 7), .int .u8 (n 8), .int .u8 (n 9), .int .u8 (n 10), .int .u8 (n 11), .int .u8 (n 12), .int .u8 (n 13), .int .u8 (n 14), .int .u8 (n 15), .int .u8 (n 16), .int .u8 (n 17), .int .u8 (n 18), .int .u8 (n 19)] 23 (0, 0)) from blk_setCells [] [.int .u8 (n 0), .int .u8 (n 1), .int .u8 (n 2), .int .u8 (n 3), .int .u8 (n 4), .int .u8 (n 5), .int .u8 (n 6), .int .u8 (n 7), .int .u8 (n 8), .int .u8 (n 9), .int .u8 (n 10), .int .u8 (n 11), .int .u8 (n 12), .int .u8 (n 13), .int .u8 (n 14), .int .u8 (n 15), .int .u8 (n 16), .int .u8 (n 17), .int .u8 (n 18), .int .u8 (n 19)] [.int .u8 0, .int .u8 0, .int .u8 0, .int .u8 0, .int .u8 0, .int .u8 0, .int .u8 0, .int .u8 0, .int .u8 0, .int .u8 0, .int .u8 0, .int .u8 0, .int .u8 0, .int .u8 0, .int .u8 0, .int .u8 0, .int .u8 0, .int .u8 0, .int .u8 0, .int .u8 0] [] w18 rfl H21.out); have B24 := Aside0.mk (below_setCells G3 [.int .u8 (n 0), .int .u8 (n 1), .int .u8 (n 2), .int .u8 (n 3), .int .u8 (n 4), .int .u8 (n 5), .int .u8 (n 6), .int .u8 (n 7), .int .u8 (n 8), .int .u8 (n 9), .int .u8 (n 10), .int .u8 (n 11), .int .u8 (n 12), .int .u8 (n 13), .int .u8 (n 14), .int .u8 (n 15), .int .u8 (n 16), .int .u8 (n 17), .int .u8 (n 18), .int .u8 (n 19)] 0 w18 B19.out); clear H21 B19; generalize World.setCells w18 g1 0 [.int .u8 (n 0), .int .u8 (n 1), .int .u8 (n 2), .int .u8 (n 3), .int .u8 (n 4), .int .u8 (n 5), .int .u8 (n 6), .int .u8 (n 7), .int .u8 (n 8), .int .u8 (n 9), .int .u8 (n 10), .int .u8 (n 11), .int .u8 (n 12), .int .u8 (n 13), .int .u8 (n 14), .int .u8 (n 15), .int .u8 (n 16), .int .u8 (n 17), .int .u8 (n 18), .int .u8 (n 19)] = w22 at H23 B24 ⊢))
  exact bodyPost_ret (results_cell_row rfl _ _ g1 23 #[.int .u8 (n 0), .int .u8 (n 1), .int .u8 (n 2), .int .u8 (n 3), .int .u8 (n 4), .int .u8 (n 5), .int .u8 (n 6), .int .u8 (n 7), .int .u8 (n 8), .int .u8 (n 9), .int .u8 (n 10), .int .u8 (n 11), .int .u8 (n 12), .int .u8 (n 13), .int .u8 (n 14), .int .u8 (n 15), .int .u8 (n 16), .int .u8 (n 17), .int .u8 (n 18), .int .u8 (n 19)] (0, 0) _ rfl H23.out Tryd.underlying23 rfl (by kernel_rfl)) rfl ⟨rfl, B24.out⟩
set_option maxHeartbeats 800000 in
set_option maxRecDepth 100000 in
theorem rleafw_many (A : Option Addr) (c : Nat) (l : List Int) (w : World) (hlen : 10000 < l.length) : Calls Tryd.prog 60 #[.slice A l.length c] w fun e w' => e = .returned (.tuple #[.agg #[.int .u8 0, .int .u8 0, .int .u8 0, .int .u8 0, .int .u8 0, .int .u8 0, .int .u8 0, .int .u8 0, .int .u8 0, .int .u8 0, .int .u8 0, .int .u8 0, .int .u8 0, .int .u8 0, .int .u8 0, .int .u8 0, .int .u8 0, .int .u8 0, .int .u8 0, .int .u8 0], .int .i64 4]) ∧ Below w.heap.size w w' := by
  have t1 : (10000 < (l.length : Int)) = True := eq_true (by omega)
  go_enter Tryd.func60, Tryd.ntmps60
  go_wp2_with (first | ((with_reducible refine gate_dst (N := 2) rfl ?_); refine box_event ?hg (N := 2) ?hd (cs := #[.int .u8 0, .int .u8 0, .int .u8 0, .int .u8 0, .int .u8 0, .int .u8 0, .int .u8 0, .int .u8 0, .int .u8 0, .int .u8 0, .int .u8 0, .int .u8 0, .int .u8 0, .int .u8 0, .int .u8 0, .int .u8 0, .int .u8 0, .int .u8 0, .int .u8 0, .int .u8 0]) (t := 23) ?hr ?_; (case hd => rfl); (case hg => rfl); (case hr => first | (go_simp; done) | (go_simp; rfl)); intro g1 hgg1 w2 hhg1 hbg1; have H5 := Aside0.mk hhg1; have G3 : w.heap.size ≤ g1 := Nat.le_of_eq hgg1.symm; have B4 := Aside0.mk (hbg1); clear hgg1 hhg1 hbg1) | ((with_reducible refine gate_store (t := 23) (p := _) rfl ?_); refine storeN_event (T := 23) rfl rfl rfl rfl rfl (storeVar_blk H5.out 23 0 [.int .u8 0, .int .u8 0, .int .u8 0, .int .u8 0, .int .u8 0, .int .u8 0, .int .u8 0, .int .u8 0, .int .u8 0, .int .u8 0, .int .u8 0, .int .u8 0, .int .u8 0, .int .u8 0, .int .u8 0, .int .u8 0, .int .u8 0, .int .u8 0, .int .u8 0, .int .u8 0] (by kernel_rfl) rfl (by simp)) ?_; have H7 := Aside0.mk (show (World.setCells w2 g1 0 [.int .u8 0, .int .u8 0, .int .u8 0, .int .u8 0, .int .u8 0, .int .u8 0, .int .u8 0, .int .u8 0, .int .u8 0, .int .u8 0, .int .u8 0, .int .u8 0, .int .u8 0, .int .u8 0, .int .u8 0, .int .u8 0, .int .u8 0, .int .u8 0, .int .u8 0, .int .u8 0]).heap[g1]? = some (.cells #[.int .u8 0, .int .u8 0, .int .u8 0, .int .u8 0, .int .u8 0, .int .u8 0, .int .u8 0, .int .u8 0, .int .u8 0, .int .u8 0, .int .u8 0, .int .u8 0, .int .u8 0, .int .u8 0, .int .u8 0, .int .u8 0, .int .u8 0, .int .u8 0, .int .u8 0, .int .u8 0] 23 (0, 0)) from blk_setCells [] [.int .u8 0, .int .u8 0, .int .u8 0, .int .u8 0, .int .u8 0, .int .u8 0, .int .u8 0, .int .u8 0, .int .u8 0, .int .u8 0, .int .u8 0, .int .u8 0, .int .u8 0, .int .u8 0, .int .u8 0, .int .u8 0, .int .u8 0, .int .u8 0, .int .u8 0, .int .u8 0] [.int .u8 0, .int .u8 0, .int .u8 0, .int .u8 0, .int .u8 0, .int .u8 0, .int .u8 0, .int .u8 0, .int .u8 0, .int .u8 0, .int .u8 0, .int .u8 0, .int .u8 0, .int .u8 0, .int .u8 0, .int .u8 0, .int .u8 0, .int .u8 0, .int .u8 0, .int .u8 0] [] w2 rfl H5.out); have B8 := Aside0.mk (below_setCells G3 [.int .u8 0, .int .u8 0, .int .u8 0, .int .u8 0, .int .u8 0, .int .u8 0, .int .u8 0, .int .u8 0, .int .u8 0, .int .u8 0, .int .u8 0, .int .u8 0, .int .u8 0, .int .u8 0, .int .u8 0, .int .u8 0, .int .u8 0, .int .u8 0, .int .u8 0, .int .u8 0] 0 w2 B4.out); clear H5 B4; generalize World.setCells w2 g1 0 [.int .u8 0, .int .u8 0, .int .u8 0, .int .u8 0, .int .u8 0, .int .u8 0, .int .u8 0, .int .u8 0, .int .u8 0, .int .u8 0, .int .u8 0, .int .u8 0, .int .u8 0, .int .u8 0, .int .u8 0, .int .u8 0, .int .u8 0, .int .u8 0, .int .u8 0, .int .u8 0] = w6 at H7 B8 ⊢))
  exact bodyPost_ret (results_ct rfl _ _ g1 23 #[.int .u8 0, .int .u8 0, .int .u8 0, .int .u8 0, .int .u8 0, .int .u8 0, .int .u8 0, .int .u8 0, .int .u8 0, .int .u8 0, .int .u8 0, .int .u8 0, .int .u8 0, .int .u8 0, .int .u8 0, .int .u8 0, .int .u8 0, .int .u8 0, .int .u8 0, .int .u8 0] (0, 0) _ rfl H7.out Tryd.underlying23 rfl (by kernel_rfl)) rfl ⟨rfl, B8.out⟩
set_option maxHeartbeats 800000 in
set_option maxRecDepth 100000 in
theorem rleafw_ok (A : Option Addr) (c : Nat) (l : List Int) (w : World) (hr : Kd.C (Kd.int .u8) w A l.length l) (hlen : ¬ 10000 < l.length) (n : Dg) (hs : ∀ W : World, Kd.C (Kd.int .u8) W A l.length l → Calls Tryd.prog 85 #[.slice A l.length c] W fun e w' => e = .returned (.agg #[.int .u8 (n 0), .int .u8 (n 1), .int .u8 (n 2), .int .u8 (n 3), .int .u8 (n 4), .int .u8 (n 5), .int .u8 (n 6), .int .u8 (n 7), .int .u8 (n 8), .int .u8 (n 9), .int .u8 (n 10), .int .u8 (n 11), .int .u8 (n 12), .int .u8 (n 13), .int .u8 (n 14), .int .u8 (n 15), .int .u8 (n 16), .int .u8 (n 17), .int .u8 (n 18), .int .u8 (n 19)]) ∧ Below W.heap.size W w') : Calls Tryd.prog 60 #[.slice A l.length c] w fun e w' => e = .returned (.tuple #[.agg #[.int .u8 (n 0), .int .u8 (n 1), .int .u8 (n 2), .int .u8 (n 3), .int .u8 (n 4), .int .u8 (n 5), .int .u8 (n 6), .int .u8 (n 7), .int .u8 (n 8), .int .u8 (n 9), .int .u8 (n 10), .int .u8 (n 11), .int .u8 (n 12), .int .u8 (n 13), .int .u8 (n 14), .int .u8 (n 15), .int .u8 (n 16), .int .u8 (n 17), .int .u8 (n 18), .int .u8 (n 19)], .int .i64 0]) ∧ Below w.heap.size w w' := by
  have t1 : (10000 < (l.length : Int)) = False := eq_false (by omega)
  have Hhr := Aside0.mk hr
  have Hhs := Aside0.mk hs
  clear hr hs
  go_enter Tryd.func60, Tryd.ntmps60
  go_wp2_with (first | ((with_reducible refine gate_dst (N := 2) rfl ?_); refine box_event ?hg (N := 2) ?hd (cs := #[.int .u8 0, .int .u8 0, .int .u8 0, .int .u8 0, .int .u8 0, .int .u8 0, .int .u8 0, .int .u8 0, .int .u8 0, .int .u8 0, .int .u8 0, .int .u8 0, .int .u8 0, .int .u8 0, .int .u8 0, .int .u8 0, .int .u8 0, .int .u8 0, .int .u8 0, .int .u8 0]) (t := 23) ?hr ?_; (case hd => rfl); (case hg => rfl); (case hr => first | (go_simp; done) | (go_simp; rfl)); intro g1 hgg1 w2 hhg1 hbg1; have H5 := Aside0.mk hhg1; have G3 : w.heap.size ≤ g1 := Nat.le_of_eq hgg1.symm; have B4 := Aside0.mk (hbg1); clear hgg1 hhg1 hbg1))
  refine (Hhs.out w2 (Kd.C_below Hhr.out B4.out)).mono ?_
  rintro e w6 ⟨rfl, hb_⟩
  have B7 := Aside0.mk (below_step B4.out hb_)
  have H8 := Aside0.mk (blk_below H5.out hb_)
  clear hb_ B4 H5
  go_wp2_with (first | ((with_reducible refine gate_store (t := 23) (p := _) rfl ?_); refine storeN_event (T := 23) rfl rfl rfl rfl rfl (storeVar_blk H8.out 23 0 [.int .u8 (n 0), .int .u8 (n 1), .int .u8 (n 2), .int .u8 (n 3), .int .u8 (n 4), .int .u8 (n 5), .int .u8 (n 6), .int .u8 (n 7), .int .u8 (n 8), .int .u8 (n 9), .int .u8 (n 10), .int .u8 (n 11), .int .u8 (n 12), .int .u8 (n 13), .int .u8 (n 14), .int .u8 (n 15), .int .u8 (n 16), .int .u8 (n 17), .int .u8 (n 18), .int .u8 (n 19)] (by kernel_rfl) rfl (by simp)) ?_; have H10 := Aside0.mk (show (World.setCells w6 g1 0 [.int .u8 (n 0), .int .u8 (n 1), .int .u8 (n 2), .int .u8 (n 3), .int .u8 (n 4), .int .u8 (n 5), .int .u8 (n 6), .int .u8 (n 7), .int .u8 (n 8), .int .u8 (n 9), .int .u8 (n 10), .int .u8 (n 11), .int .u8 (n 12), .int .u8 (n 13), .int .u8 (n 14), .int .u8 (n 15), .int .u8 (n 16), .int .u8 (n 17), .int .u8 (n 18), .int .u8 (n 19)]).heap[g1]? = some (.cells #[.int .u8 (n 0), .int .u8 (n 1), .int .u8 (n 2), .int .u8 (n 3), .int .u8 (n 4), .int .u8 (n 5), .int .u8 (n 6), .int .u8 (n 7), .int .u8 (n 8), .int .u8 (n 9), .int .u8 (n 10), .int .u8 (n 11), .int .u8 (n 12), .int .u8 (n 13), .int .u8 (n 14), .int .u8 (n 15), .int .u8 (n 16), .int .u8 (n 17), .int .u8 (n 18), .int .u8 (n 19)] 23 (0, 0)) from blk_setCells [] [.int .u8 (n 0), .int .u8 (n 1), .int .u8 (n 2), .int .u8 (n 3), .int .u8 (n 4), .int .u8 (n 5), .int .u8 (n 6), .int .u8 (n 7), .int .u8 (n 8), .int .u8 (n 9), .int .u8 (n 10), .int .u8 (n 11), .int .u8 (n 12), .int .u8 (n 13), .int .u8 (n 14), .int .u8 (n 15), .int .u8 (n 16), .int .u8 (n 17), .int .u8 (n 18), .int .u8 (n 19)] [.int .u8 0, .int .u8 0, .int .u8 0, .int .u8 0, .int .u8 0, .int .u8 0, .int .u8 0, .int .u8 0, .int .u8 0, .int .u8 0, .int .u8 0, .int .u8 0, .int .u8 0, .int .u8 0, .int .u8 0, .int .u8 0, .int .u8 0, .int .u8 0, .int .u8 0, .int .u8 0] [] w6 rfl H8.out); have B11 := Aside0.mk (below_setCells G3 [.int .u8 (n 0), .int .u8 (n 1), .int .u8 (n 2), .int .u8 (n 3), .int .u8 (n 4), .int .u8 (n 5), .int .u8 (n 6), .int .u8 (n 7), .int .u8 (n 8), .int .u8 (n 9), .int .u8 (n 10), .int .u8 (n 11), .int .u8 (n 12), .int .u8 (n 13), .int .u8 (n 14), .int .u8 (n 15), .int .u8 (n 16), .int .u8 (n 17), .int .u8 (n 18), .int .u8 (n 19)] 0 w6 B7.out); clear H8 B7; generalize World.setCells w6 g1 0 [.int .u8 (n 0), .int .u8 (n 1), .int .u8 (n 2), .int .u8 (n 3), .int .u8 (n 4), .int .u8 (n 5), .int .u8 (n 6), .int .u8 (n 7), .int .u8 (n 8), .int .u8 (n 9), .int .u8 (n 10), .int .u8 (n 11), .int .u8 (n 12), .int .u8 (n 13), .int .u8 (n 14), .int .u8 (n 15), .int .u8 (n 16), .int .u8 (n 17), .int .u8 (n 18), .int .u8 (n 19)] = w9 at H10 B11 ⊢))
  exact bodyPost_ret (results_ct rfl _ _ g1 23 #[.int .u8 (n 0), .int .u8 (n 1), .int .u8 (n 2), .int .u8 (n 3), .int .u8 (n 4), .int .u8 (n 5), .int .u8 (n 6), .int .u8 (n 7), .int .u8 (n 8), .int .u8 (n 9), .int .u8 (n 10), .int .u8 (n 11), .int .u8 (n 12), .int .u8 (n 13), .int .u8 (n 14), .int .u8 (n 15), .int .u8 (n 16), .int .u8 (n 17), .int .u8 (n 18), .int .u8 (n 19)] (0, 0) _ rfl H10.out Tryd.underlying23 rfl (by kernel_rfl)) rfl ⟨rfl, B11.out⟩
theorem rleaf_ok (A : Option Addr) (c : Nat) (l : List Int) (w : World) (hr : Kd.C (Kd.int .u8) w A l.length l) (hlen : ¬ 10000 < l.length) (hb : ∀ z ∈ l, 0 ≤ z ∧ z < 256) : Calls Tryd.prog 60 #[.slice A l.length c] w fun e w' => e = .returned (.tuple #[.agg #[.int .u8 (lfg l 0), .int .u8 (lfg l 1), .int .u8 (lfg l 2), .int .u8 (lfg l 3), .int .u8 (lfg l 4), .int .u8 (lfg l 5), .int .u8 (lfg l 6), .int .u8 (lfg l 7), .int .u8 (lfg l 8), .int .u8 (lfg l 9), .int .u8 (lfg l 10), .int .u8 (lfg l 11), .int .u8 (lfg l 12), .int .u8 (lfg l 13), .int .u8 (lfg l 14), .int .u8 (lfg l 15), .int .u8 (lfg l 16), .int .u8 (lfg l 17), .int .u8 (lfg l 18), .int .u8 (lfg l 19)], .int .i64 0]) ∧ Below w.heap.size w w' := rleafw_ok A c l w hr hlen (lfg l) (fun W hC => rleaf0_walk A c l W hC (Nat.le_of_not_lt hlen) (lfg l) (fun W A1 c1 hC => leaf_of l (Nat.le_of_not_lt hlen) hb A1 c1 W hC))
end Go.Proofs.YtbldecdipicddaaDoor.Hand
