/- Leaves and nodes of the tree, the program's and the reference's. Written by wip/s1/mknode.py. -/
import Derived.Test.YtbldecdipicddaaDoorRowForm
import Derived.Test.YtbldecdipicddaaDoorSumC
set_option linter.unusedSimpArgs false
set_option linter.unusedVariables false
namespace Go.Proofs.YtbldecdipicddaaDoor.Hand
open Go Go.RowKit Go.Proofs.YtbldecdipicddaaDoorW.PrintWords Go.Proofs.YtbldecdipicddaaDoorW.PrintLast
/-- A digest: its bytes. -/
abbrev Dg := Nat → Int
def dgl (d : Dg) : List Int := [d 0, d 1, d 2, d 3, d 4, d 5, d 6, d 7, d 8, d 9, d 10, d 11, d 12, d 13, d 14, d 15, d 16, d 17, d 18, d 19]
def ndg (a b : Dg) : Dg := fun i => (dig (fin5 (([1] ++ dgl a) ++ dgl b))).getD i 0
def lfg (l : List Int) : Dg := fun i => (dig (fin5 ([0] ++ l))).getD i 0
def zdg : Dg := fun _ => 0
def dgr (d : Dg) : Prop := ∀ i, i < 20 → 0 ≤ d i ∧ d i < 256
theorem dgl_rng {d : Dg} (h : dgr d) : ∀ z ∈ dgl d, 0 ≤ z ∧ z < 256 := by
  intro z hz
  simp only [dgl, List.mem_cons, List.not_mem_nil, or_false] at hz
  rcases hz with rfl | rfl | rfl | rfl | rfl | rfl | rfl | rfl | rfl | rfl | rfl | rfl | rfl | rfl | rfl | rfl | rfl | rfl | rfl | rfl <;> exact h _ (by decide)
theorem b4_rng (x : Int) : ∀ z ∈ b4 x, 0 ≤ z ∧ z < 256 := by
  intro z hz
  simp only [b4, List.mem_cons, List.not_mem_nil, or_false] at hz
  omega
theorem dig_rng (F : W5) : ∀ z ∈ dig F, 0 ≤ z ∧ z < 256 := by
  intro z hz
  simp only [dig, List.mem_append] at hz
  rcases hz with (((h | h) | h) | h) | h <;> exact b4_rng _ z h
theorem dgl_len (d : Dg) : (dgl d).length = 20 := rfl
theorem dgl_le (d : Dg) : (dgl d).length ≤ 9223372036854775807 := by rw [dgl_len]; decide
theorem tot41 (a b : Dg) : tot [[1], dgl a, dgl b] [[1], dgl a, dgl b].length ≤ 1000000000 := by
  rw [show tot [[1], dgl a, dgl b] [[1], dgl a, dgl b].length = 41 from rfl]
  decide
theorem app21 (d : Dg) (m : Nat) (h : m = 20) : (([1] : List Int).length + m) * 1 ≤ 140737488355328 := by subst h; decide
theorem app41 (d : Dg) (m : Nat) (h : m = 20) : (([1] ++ dgl d : List Int).length + m) * 1 ≤ 140737488355328 := by
  subst h
  rw [show ([1] ++ dgl d : List Int).length = 21 from rfl]
  decide
theorem ndg_rng (a b : Dg) : dgr (ndg a b) := by
  intro i hi
  unfold ndg
  rw [List.getD_eq_getElem?_getD, List.getElem?_eq_getElem (show i < (dig _).length from hi)]
  exact dig_rng _ _ (List.getElem_mem _)
theorem lfg_rng (l : List Int) : dgr (lfg l) := by
  intro i hi
  unfold lfg
  rw [List.getD_eq_getElem?_getD, List.getElem?_eq_getElem (show i < (dig _).length from hi)]
  exact dig_rng _ _ (List.getElem_mem _)
theorem bytes_at {w : World} {g t : Nat} {l : List Int} (hb : w.heap[g]? = some (.cells (l.map (Value.int .u8)).toArray t (0, 0))) (hn : l.length ≤ 9223372036854775807) : Kd.C (Kd.int .u8) w (some ⟨g, 0, none⟩) l.length l := by
  refine Kd.C_of_reads (d := (0 : Int)) (h1 := fun _ => rfl) ⟨rfl, hn, fun _ => ⟨⟨g, 0, none⟩, rfl, fun j hj => ?_⟩⟩
  have e : (⟨g, 0, none⟩ : Addr).add j = ⟨g, j, none⟩ := by
    by_cases h : j = 0
    · subst h; rfl
    · simp [Addr.add, h]
  rw [e, blk_cell hb]
  simp [List.getD_eq_getElem?_getD, List.getElem?_map, hj]
theorem rows3n {w : World} {g t n1 n2 n3 c1 c2 c3 : Nat} {A1 A2 A3 : Option Addr} {l1 l2 l3 : List Int} (e1 : l1.length = n1) (e2 : l2.length = n2) (e3 : l3.length = n3) (hb : w.heap[g]? = some (.cells #[.slice A1 n1 c1, .slice A2 n2 c2, .slice A3 n3 c3] t (0, 0))) (h1 : Kd.C (Kd.int .u8) w A1 n1 l1) (q1 : n1 ≤ c1) (h2 : Kd.C (Kd.int .u8) w A2 n2 l2) (q2 : n2 ≤ c2) (h3 : Kd.C (Kd.int .u8) w A3 n3 l3) (q3 : n3 ≤ c3) :
    Kd.C (Kd.slice 5 (Kd.int .u8)) w (some ⟨g, 0, none⟩) 3 [l1, l2, l3] := by
  subst e1 e2 e3
  exact rows_mk (ll := [l1, l2, l3]) (vs := [.slice A1 l1.length c1, .slice A2 l2.length c2, .slice A3 l3.length c3]) hb (by show 3 ≤ _; decide) (fun i x hi => match i, hi with
    | 0, hi => by cases hi; exact ⟨A1, c1, rfl, q1, h1⟩
    | 1, hi => by cases hi; exact ⟨A2, c2, rfl, q2, h2⟩
    | 2, hi => by cases hi; exact ⟨A3, c3, rfl, q3, h3⟩
    | i + 3, hi => by simp at hi)
theorem concat3 (a b : Dg) (g : Nat) (W : World) (hC : Kd.C (Kd.slice 5 (Kd.int .u8)) W (some ⟨g, 0, none⟩) 3 [[1], dgl a, dgl b]) : Calls Tryd.prog 79 #[.slice (some ⟨g, 0, none⟩) 3 3] W fun e w' => ∃ v0_ : Value, e = .returned v0_ ∧ Kd.R (Kd.int .u8) 5 w' W.heap.size (fun _ => True) v0_ (([1] ++ dgl a) ++ dgl b) ∧ Below W.heap.size W w' :=
  concat_calls (some ⟨g, 0, none⟩) 3 [[1], dgl a, dgl b] W hC (tot41 a b) (fun W n hn => grow_calls W n hn)
theorem node_sum (a b : Dg) (A1 : Option Addr) (c1 : Nat) (W : World) (hT : TabQ W) (hC : Kd.C (Kd.int .u8) W A1 (([1] ++ dgl a) ++ dgl b).length (([1] ++ dgl a) ++ dgl b)) (hc : (([1] ++ dgl a) ++ dgl b).length ≤ c1) :
    Calls Tryd.prog 44 #[.slice A1 (([1] ++ dgl a) ++ dgl b).length c1] W fun e w' => e = .returned (.tuple #[.agg #[.int .u8 (ndg a b 0), .int .u8 (ndg a b 1), .int .u8 (ndg a b 2), .int .u8 (ndg a b 3), .int .u8 (ndg a b 4), .int .u8 (ndg a b 5), .int .u8 (ndg a b 6), .int .u8 (ndg a b 7), .int .u8 (ndg a b 8), .int .u8 (ndg a b 9), .int .u8 (ndg a b 10), .int .u8 (ndg a b 11), .int .u8 (ndg a b 12), .int .u8 (ndg a b 13), .int .u8 (ndg a b 14), .int .u8 (ndg a b 15), .int .u8 (ndg a b 16), .int .u8 (ndg a b 17), .int .u8 (ndg a b 18), .int .u8 (ndg a b 19)], .int .i64 0]) ∧ Below W.heap.size W w' := sum_c A1 c1 _ W hT hC hc (by show 41 ≤ 20000; decide)
theorem leaf_sum (l : List Int) (hl : l.length ≤ 10000) (A1 : Option Addr) (c1 : Nat) (W : World) (hT : TabQ W) (hC : Kd.C (Kd.int .u8) W A1 ([0] ++ l).length ([0] ++ l)) (hc : ([0] ++ l).length ≤ c1) :
    Calls Tryd.prog 44 #[.slice A1 ([0] ++ l).length c1] W fun e w' => e = .returned (.tuple #[.agg #[.int .u8 (lfg l 0), .int .u8 (lfg l 1), .int .u8 (lfg l 2), .int .u8 (lfg l 3), .int .u8 (lfg l 4), .int .u8 (lfg l 5), .int .u8 (lfg l 6), .int .u8 (lfg l 7), .int .u8 (lfg l 8), .int .u8 (lfg l 9), .int .u8 (lfg l 10), .int .u8 (lfg l 11), .int .u8 (lfg l 12), .int .u8 (lfg l 13), .int .u8 (lfg l 14), .int .u8 (lfg l 15), .int .u8 (lfg l 16), .int .u8 (lfg l 17), .int .u8 (lfg l 18), .int .u8 (lfg l 19)], .int .i64 0]) ∧ Below W.heap.size W w' := sum_c A1 c1 _ W hT hC hc (by rw [List.length_append]; show 1 + l.length ≤ _; omega)
set_option maxHeartbeats 800000 in
set_option maxRecDepth 100000 in
theorem node_walk (a b : Dg) (w : World) (hT : TabQ w) (n : Dg) (hs : ∀ (W : World) (A1 : Option Addr) (c1 : Nat), TabQ W → Kd.C (Kd.int .u8) W A1 (([1] ++ dgl a) ++ dgl b).length (([1] ++ dgl a) ++ dgl b) → (([1] ++ dgl a) ++ dgl b).length ≤ c1 → Calls Tryd.prog 44 #[.slice A1 (([1] ++ dgl a) ++ dgl b).length c1] W fun e w' => e = .returned (.tuple #[.agg #[.int .u8 (n 0), .int .u8 (n 1), .int .u8 (n 2), .int .u8 (n 3), .int .u8 (n 4), .int .u8 (n 5), .int .u8 (n 6), .int .u8 (n 7), .int .u8 (n 8), .int .u8 (n 9), .int .u8 (n 10), .int .u8 (n 11), .int .u8 (n 12), .int .u8 (n 13), .int .u8 (n 14), .int .u8 (n 15), .int .u8 (n 16), .int .u8 (n 17), .int .u8 (n 18), .int .u8 (n 19)], .int .i64 0]) ∧ Below W.heap.size W w') : Calls Tryd.prog 78 #[.agg #[.int .u8 (a 0), .int .u8 (a 1), .int .u8 (a 2), .int .u8 (a 3), .int .u8 (a 4), .int .u8 (a 5), .int .u8 (a 6), .int .u8 (a 7), .int .u8 (a 8), .int .u8 (a 9), .int .u8 (a 10), .int .u8 (a 11), .int .u8 (a 12), .int .u8 (a 13), .int .u8 (a 14), .int .u8 (a 15), .int .u8 (a 16), .int .u8 (a 17), .int .u8 (a 18), .int .u8 (a 19)], .agg #[.int .u8 (b 0), .int .u8 (b 1), .int .u8 (b 2), .int .u8 (b 3), .int .u8 (b 4), .int .u8 (b 5), .int .u8 (b 6), .int .u8 (b 7), .int .u8 (b 8), .int .u8 (b 9), .int .u8 (b 10), .int .u8 (b 11), .int .u8 (b 12), .int .u8 (b 13), .int .u8 (b 14), .int .u8 (b 15), .int .u8 (b 16), .int .u8 (b 17), .int .u8 (b 18), .int .u8 (b 19)]] w fun e w' => e = .returned (.tuple #[.agg #[.int .u8 (n 0), .int .u8 (n 1), .int .u8 (n 2), .int .u8 (n 3), .int .u8 (n 4), .int .u8 (n 5), .int .u8 (n 6), .int .u8 (n 7), .int .u8 (n 8), .int .u8 (n 9), .int .u8 (n 10), .int .u8 (n 11), .int .u8 (n 12), .int .u8 (n 13), .int .u8 (n 14), .int .u8 (n 15), .int .u8 (n 16), .int .u8 (n 17), .int .u8 (n 18), .int .u8 (n 19)], .int .i64 0]) ∧ Below w.heap.size w w' := by
  have HhT := Aside0.mk hT
  have HS := Aside0.mk hs
  clear hT hs
  go_enter Tryd.func78, Tryd.ntmps78
  go_wp2_with (first | ((with_reducible refine gate_dst (N := 2) rfl ?_); refine box_event ?hg (N := 2) ?hd (cs := #[.int .u8 (a 0), .int .u8 (a 1), .int .u8 (a 2), .int .u8 (a 3), .int .u8 (a 4), .int .u8 (a 5), .int .u8 (a 6), .int .u8 (a 7), .int .u8 (a 8), .int .u8 (a 9), .int .u8 (a 10), .int .u8 (a 11), .int .u8 (a 12), .int .u8 (a 13), .int .u8 (a 14), .int .u8 (a 15), .int .u8 (a 16), .int .u8 (a 17), .int .u8 (a 18), .int .u8 (a 19)]) (t := 23) ?hr ?_; (case hd => rfl); (case hg => rfl); (case hr => first | (go_simp; done) | (go_simp; rfl)); intro g1 hgg1 w2 hhg1 hbg1; have H5 := Aside0.mk hhg1; have G3 : w.heap.size ≤ g1 := Nat.le_of_eq hgg1.symm; have B4 := Aside0.mk (hbg1); clear hgg1 hhg1 hbg1) | ((with_reducible refine gate_dst (N := 3) rfl ?_); refine box_event ?hg (N := 3) ?hd (cs := #[.int .u8 (b 0), .int .u8 (b 1), .int .u8 (b 2), .int .u8 (b 3), .int .u8 (b 4), .int .u8 (b 5), .int .u8 (b 6), .int .u8 (b 7), .int .u8 (b 8), .int .u8 (b 9), .int .u8 (b 10), .int .u8 (b 11), .int .u8 (b 12), .int .u8 (b 13), .int .u8 (b 14), .int .u8 (b 15), .int .u8 (b 16), .int .u8 (b 17), .int .u8 (b 18), .int .u8 (b 19)]) (t := 23) ?hr ?_; (case hd => rfl); (case hg => rfl); (case hr => first | (go_simp; done) | (go_simp; rfl)); intro g6 hgg6 w7 hhg6 hbg6; have H12 := Aside0.mk hhg6; have N8 : g1 ≠ g6 := Nat.ne_of_lt (Nat.lt_of_lt_of_eq (blk_lt H5.out) hgg6.symm); have G9 : w.heap.size ≤ g6 := Nat.le_trans B4.out.size (Nat.le_of_eq hgg6.symm); have B10 := Aside0.mk (below_step B4.out hbg6); have H11 := Aside0.mk (blk_below H5.out hbg6); clear hgg6 hhg6 hbg6 B4 H5) | ((with_reducible refine gate_dst (N := 4) rfl ?_); refine box_event ?hg (N := 4) ?hd (cs := #[.int .u8 0, .int .u8 0, .int .u8 0, .int .u8 0, .int .u8 0, .int .u8 0, .int .u8 0, .int .u8 0, .int .u8 0, .int .u8 0, .int .u8 0, .int .u8 0, .int .u8 0, .int .u8 0, .int .u8 0, .int .u8 0, .int .u8 0, .int .u8 0, .int .u8 0, .int .u8 0]) (t := 23) ?hr ?_; (case hd => rfl); (case hg => rfl); (case hr => first | (go_simp; done) | (go_simp; rfl)); intro g13 hgg13 w14 hhg13 hbg13; have H21 := Aside0.mk hhg13; have N15 : g1 ≠ g13 := Nat.ne_of_lt (Nat.lt_of_lt_of_eq (blk_lt H11.out) hgg13.symm); have N16 : g6 ≠ g13 := Nat.ne_of_lt (Nat.lt_of_lt_of_eq (blk_lt H12.out) hgg13.symm); have G17 : w.heap.size ≤ g13 := Nat.le_trans B10.out.size (Nat.le_of_eq hgg13.symm); have B18 := Aside0.mk (below_step B10.out hbg13); have H19 := Aside0.mk (blk_below H11.out hbg13); have H20 := Aside0.mk (blk_below H12.out hbg13); clear hgg13 hhg13 hbg13 B10 H11 H12))
  have H23 := Aside0.mk (blk_drew H19.out)
  have H24 := Aside0.mk (blk_drew H20.out)
  have H25 := Aside0.mk (blk_drew H21.out)
  have B26 := Aside0.mk (below_drew B18.out)
  clear H19 H20 H21 B18
  refine start_ (n := 10) (S := fun w' => True) (ds := [8]) #[false, false, false, false, false, false, false, false, false, false] (by kernel_rfl) rfl rfl trivial (fun hHeld => ?_)
  generalize World.drew w14 = w22 at H23 H24 H25 B26 hHeld ⊢
  refine pure_ (i := 1) (N := some 7) (v := ?_) (a' := ?_) #[false, true, false, false, false, false, false, false, false, false] rfl rfl (by kernel_rfl) (fun _ _ _ h => h) (Or.inl ⟨by rfl, ?_⟩) ?_ ?_
  rotate_left
  · intro w'
    go_simp
    with_reducible rfl
  rotate_left
  · simp only [Act.put, List.setIfInBounds_toArray, List.set_cons_zero, List.set_cons_succ, i64_w, i32_w]
    rfl
  refine pure_ (i := 2) (N := some 8) (v := ?_) (a' := ?_) #[false, true, true, false, false, false, false, false, false, false] rfl rfl (by kernel_rfl) (fun _ _ _ h => h) (Or.inl ⟨by rfl, ?_⟩) ?_ ?_
  rotate_left
  · intro w'
    go_simp
    with_reducible rfl
  rotate_left
  · simp only [Act.put, List.setIfInBounds_toArray, List.set_cons_zero, List.set_cons_succ, i64_w, i32_w]
    rfl
  refine one_ (i := 0) (N := some 6) #[true, true, true, false, false, false, false, false, false, false] rfl rfl (by kernel_rfl) (by decide) (fun K hK => ?_)
  refine value_ (w1 := World.alloc w22 (.cells #[.int .u8 1] 5 (0, 0))) (v := .slice (some ⟨w22.heap.size, 0, none⟩) 1 1) (by rfl) rfl (by first | (go_simp; done) | (go_simp; rfl)) ?_
  obtain ⟨gl, w27, hg_, hw_, hh_, hb_⟩ := new_blk w22 #[.int .u8 1] 5
  rw [← hg_, ← hw_]
  have H36 := Aside0.mk hh_
  have N28 : g1 ≠ gl := Nat.ne_of_lt (Nat.lt_of_lt_of_eq (blk_lt H23.out) hg_.symm)
  have N29 : g6 ≠ gl := Nat.ne_of_lt (Nat.lt_of_lt_of_eq (blk_lt H24.out) hg_.symm)
  have N30 : g13 ≠ gl := Nat.ne_of_lt (Nat.lt_of_lt_of_eq (blk_lt H25.out) hg_.symm)
  have G31 : w.heap.size ≤ gl := Nat.le_trans B26.out.size (Nat.le_of_eq hg_.symm)
  have B32 := Aside0.mk (below_step B26.out hb_)
  have H33 := Aside0.mk (blk_below H23.out hb_)
  have H34 := Aside0.mk (blk_below H24.out hb_)
  have H35 := Aside0.mk (blk_below H25.out hb_)
  clear hg_ hh_ hb_ B26 H23 H24 H25
  clear hw_
  refine hK.out _ _ trivial (fun hHeld => ?_)
  clear hK K
  refine norm_ (a' := ?_) ?_ ?_
  rotate_left
  · show Act.put _ (some 6) _ = _
    simp only [Act.put, List.setIfInBounds_toArray, List.set_cons_zero, List.set_cons_succ, i64_w, i32_w]
    rfl
  refine one_ (i := 3) (N := some 9) #[true, true, true, true, false, false, false, false, false, false] rfl rfl (by kernel_rfl) (by decide) (fun K hK => ?_)
  refine value_ (w1 := World.alloc w27 (.cells #[.slice (some ⟨gl, 0, none⟩) 1 1, .slice (some ⟨g1, 0, none⟩) 20 20, .slice (some ⟨g6, 0, none⟩) 20 20] 26 (0, 0))) (v := .slice (some ⟨w27.heap.size, 0, none⟩) 3 3) (by rfl) rfl (by first | (go_simp; done) | (go_simp; rfl)) ?_
  obtain ⟨gr, w37, hg_, hw_, hh_, hb_⟩ := new_blk w27 #[.slice (some ⟨gl, 0, none⟩) 1 1, .slice (some ⟨g1, 0, none⟩) 20 20, .slice (some ⟨g6, 0, none⟩) 20 20] 26
  rw [← hg_, ← hw_]
  have H48 := Aside0.mk hh_
  have N38 : g1 ≠ gr := Nat.ne_of_lt (Nat.lt_of_lt_of_eq (blk_lt H33.out) hg_.symm)
  have N39 : g6 ≠ gr := Nat.ne_of_lt (Nat.lt_of_lt_of_eq (blk_lt H34.out) hg_.symm)
  have N40 : g13 ≠ gr := Nat.ne_of_lt (Nat.lt_of_lt_of_eq (blk_lt H35.out) hg_.symm)
  have N41 : gl ≠ gr := Nat.ne_of_lt (Nat.lt_of_lt_of_eq (blk_lt H36.out) hg_.symm)
  have G42 : w.heap.size ≤ gr := Nat.le_trans B32.out.size (Nat.le_of_eq hg_.symm)
  have B43 := Aside0.mk (below_step B32.out hb_)
  have H44 := Aside0.mk (blk_below H33.out hb_)
  have H45 := Aside0.mk (blk_below H34.out hb_)
  have H46 := Aside0.mk (blk_below H35.out hb_)
  have H47 := Aside0.mk (blk_below H36.out hb_)
  clear hg_ hh_ hb_ B32 H33 H34 H35 H36
  clear hw_
  refine hK.out _ _ trivial (fun hHeld => ?_)
  clear hK K
  refine norm_ (a' := ?_) ?_ ?_
  rotate_left
  · show Act.put _ (some 9) _ = _
    simp only [Act.put, List.setIfInBounds_toArray, List.set_cons_zero, List.set_cons_succ, i64_w, i32_w]
    rfl
  refine one_ (i := 4) (N := some 10) #[true, true, true, true, true, false, false, false, false, false] rfl rfl (by kernel_rfl) (by decide) (fun K hK => ?_)
  refine goes_ Tryd.func79 (by kernel_rfl) rfl #[.slice (some ⟨gr, 0, none⟩) 3 3] (by rfl) rfl rfl (by simp only [List.map_toArray, List.map_cons, List.map_nil]; rfl) ?_
  with_reducible refine ((concat3 a b gr w37 (rows3n rfl rfl rfl H48.out (bytes_at (l := [1]) H47.out (by decide)) (Nat.le_refl 1) (bytes_at (l := dgl a) H44.out (dgl_le _)) (Nat.le_refl 20) (bytes_at (l := dgl b) H45.out (dgl_le _)) (Nat.le_refl 20)))).mono ?_
  rintro e_ w49 ⟨vr_, rfl, hR_, hb_⟩
  refine ⟨_, rfl, ?_⟩
  have B50 := Aside0.mk (below_step B43.out hb_)
  have H51 := Aside0.mk (blk_below H44.out hb_)
  have H52 := Aside0.mk (blk_below H45.out hb_)
  have H53 := Aside0.mk (blk_below H46.out hb_)
  have H54 := Aside0.mk (blk_below H47.out hb_)
  have H55 := Aside0.mk (blk_below H48.out hb_)
  clear hb_ B43 H44 H45 H46 H47 H48
  obtain ⟨rx, c_rx, rfl, hle_, hC_⟩ := Kd.R_reads hR_
  have R56 := Aside0.mk hC_
  have L57 := Aside0.mk hle_
  clear hC_ hle_ hR_
  refine hK.out _ _ trivial (fun hHeld => ?_)
  clear hK K
  refine norm_ (a' := ?_) ?_ ?_
  rotate_left
  · show Act.put _ (some 10) _ = _
    simp only [Act.put, List.setIfInBounds_toArray, List.set_cons_zero, List.set_cons_succ, i64_w, i32_w]
    rfl
  refine one_ (i := 5) (N := some 11) #[true, true, true, true, true, true, false, false, false, false] rfl rfl (by kernel_rfl) (by decide) (fun K hK => ?_)
  refine goes_ Tryd.func44 (by kernel_rfl) rfl #[.slice rx (([1] ++ dgl a) ++ dgl b).length c_rx] (by rfl) rfl rfl (by simp only [List.map_toArray, List.map_cons, List.map_nil]; rfl) ?_
  with_reducible refine ((HS.out w49 rx c_rx (HhT.out.at B50.out) (Kd.C_below R56.out (Below.refl _ _)) L57.out)).mono ?_
  rintro e_ w58 ⟨rfl, hb_⟩
  refine ⟨_, rfl, ?_⟩
  have B59 := Aside0.mk (below_step B50.out hb_)
  have B60 := Aside0.mk (hb_)
  have H61 := Aside0.mk (blk_below H51.out hb_)
  have H62 := Aside0.mk (blk_below H52.out hb_)
  have H63 := Aside0.mk (blk_below H53.out hb_)
  have H64 := Aside0.mk (blk_below H54.out hb_)
  have H65 := Aside0.mk (blk_below H55.out hb_)
  clear hb_ B50 H51 H52 H53 H54 H55
  refine hK.out _ _ trivial (fun hHeld => ?_)
  clear hK K
  refine norm_ (a' := ?_) ?_ ?_
  rotate_left
  · show Act.put _ (some 11) _ = _
    simp only [Act.put, List.setIfInBounds_toArray, List.set_cons_zero, List.set_cons_succ, i64_w, i32_w]
    rfl
  refine pure_ (i := 6) (N := some 12) (v := ?_) (a' := ?_) #[true, true, true, true, true, true, true, false, false, false] rfl rfl (by kernel_rfl) (fun _ _ _ h => h) (Or.inl ⟨by rfl, ?_⟩) ?_ ?_
  rotate_left
  · intro w'
    go_simp
    with_reducible rfl
  rotate_left
  · simp only [Act.put, List.setIfInBounds_toArray, List.set_cons_zero, List.set_cons_succ, i64_w, i32_w]
    rfl
  refine pure_ (i := 7) (N := some 13) (v := ?_) (a' := ?_) #[true, true, true, true, true, true, true, true, false, false] rfl rfl (by kernel_rfl) (fun _ _ _ h => h) (Or.inl ⟨by rfl, ?_⟩) ?_ ?_
  rotate_left
  · intro w'
    go_simp
    with_reducible rfl
  rotate_left
  · simp only [Act.put, List.setIfInBounds_toArray, List.set_cons_zero, List.set_cons_succ, i64_w, i32_w]
    rfl
  refine last_ (i := 8) (N := none) #[true, true, true, true, true, true, true, true, true, false] rfl rfl (by kernel_rfl) (by decide) (fun K hK => ?_)
  refine skip_ (w1 := World.setCells w58 g13 0 [.int .u8 (n 0), .int .u8 (n 1), .int .u8 (n 2), .int .u8 (n 3), .int .u8 (n 4), .int .u8 (n 5), .int .u8 (n 6), .int .u8 (n 7), .int .u8 (n 8), .int .u8 (n 9), .int .u8 (n 10), .int .u8 (n 11), .int .u8 (n 12), .int .u8 (n 13), .int .u8 (n 14), .int .u8 (n 15), .int .u8 (n 16), .int .u8 (n 17), .int .u8 (n 18), .int .u8 (n 19)]) (by rfl) rfl (by exact storeN_run (T := 23) (vs := [.int .u8 (n 0), .int .u8 (n 1), .int .u8 (n 2), .int .u8 (n 3), .int .u8 (n 4), .int .u8 (n 5), .int .u8 (n 6), .int .u8 (n 7), .int .u8 (n 8), .int .u8 (n 9), .int .u8 (n 10), .int .u8 (n 11), .int .u8 (n 12), .int .u8 (n 13), .int .u8 (n 14), .int .u8 (n 15), .int .u8 (n 16), .int .u8 (n 17), .int .u8 (n 18), .int .u8 (n 19)]) rfl rfl rfl (storeVar_blk H63.out 23 0 [.int .u8 (n 0), .int .u8 (n 1), .int .u8 (n 2), .int .u8 (n 3), .int .u8 (n 4), .int .u8 (n 5), .int .u8 (n 6), .int .u8 (n 7), .int .u8 (n 8), .int .u8 (n 9), .int .u8 (n 10), .int .u8 (n 11), .int .u8 (n 12), .int .u8 (n 13), .int .u8 (n 14), .int .u8 (n 15), .int .u8 (n 16), .int .u8 (n 17), .int .u8 (n 18), .int .u8 (n 19)] (by kernel_rfl) rfl (by simp))) ?_
  have H67 := Aside0.mk (show (World.setCells w58 g13 0 [.int .u8 (n 0), .int .u8 (n 1), .int .u8 (n 2), .int .u8 (n 3), .int .u8 (n 4), .int .u8 (n 5), .int .u8 (n 6), .int .u8 (n 7), .int .u8 (n 8), .int .u8 (n 9), .int .u8 (n 10), .int .u8 (n 11), .int .u8 (n 12), .int .u8 (n 13), .int .u8 (n 14), .int .u8 (n 15), .int .u8 (n 16), .int .u8 (n 17), .int .u8 (n 18), .int .u8 (n 19)]).heap[g13]? = some (.cells #[.int .u8 (n 0), .int .u8 (n 1), .int .u8 (n 2), .int .u8 (n 3), .int .u8 (n 4), .int .u8 (n 5), .int .u8 (n 6), .int .u8 (n 7), .int .u8 (n 8), .int .u8 (n 9), .int .u8 (n 10), .int .u8 (n 11), .int .u8 (n 12), .int .u8 (n 13), .int .u8 (n 14), .int .u8 (n 15), .int .u8 (n 16), .int .u8 (n 17), .int .u8 (n 18), .int .u8 (n 19)] 23 (0, 0)) from blk_setCells [] [.int .u8 (n 0), .int .u8 (n 1), .int .u8 (n 2), .int .u8 (n 3), .int .u8 (n 4), .int .u8 (n 5), .int .u8 (n 6), .int .u8 (n 7), .int .u8 (n 8), .int .u8 (n 9), .int .u8 (n 10), .int .u8 (n 11), .int .u8 (n 12), .int .u8 (n 13), .int .u8 (n 14), .int .u8 (n 15), .int .u8 (n 16), .int .u8 (n 17), .int .u8 (n 18), .int .u8 (n 19)] [.int .u8 0, .int .u8 0, .int .u8 0, .int .u8 0, .int .u8 0, .int .u8 0, .int .u8 0, .int .u8 0, .int .u8 0, .int .u8 0, .int .u8 0, .int .u8 0, .int .u8 0, .int .u8 0, .int .u8 0, .int .u8 0, .int .u8 0, .int .u8 0, .int .u8 0, .int .u8 0] [] w58 rfl H63.out)
  have H68 := Aside0.mk (far_setCells N15 [.int .u8 (n 0), .int .u8 (n 1), .int .u8 (n 2), .int .u8 (n 3), .int .u8 (n 4), .int .u8 (n 5), .int .u8 (n 6), .int .u8 (n 7), .int .u8 (n 8), .int .u8 (n 9), .int .u8 (n 10), .int .u8 (n 11), .int .u8 (n 12), .int .u8 (n 13), .int .u8 (n 14), .int .u8 (n 15), .int .u8 (n 16), .int .u8 (n 17), .int .u8 (n 18), .int .u8 (n 19)] 0 w58 H61.out)
  have H69 := Aside0.mk (far_setCells N16 [.int .u8 (n 0), .int .u8 (n 1), .int .u8 (n 2), .int .u8 (n 3), .int .u8 (n 4), .int .u8 (n 5), .int .u8 (n 6), .int .u8 (n 7), .int .u8 (n 8), .int .u8 (n 9), .int .u8 (n 10), .int .u8 (n 11), .int .u8 (n 12), .int .u8 (n 13), .int .u8 (n 14), .int .u8 (n 15), .int .u8 (n 16), .int .u8 (n 17), .int .u8 (n 18), .int .u8 (n 19)] 0 w58 H62.out)
  have H70 := Aside0.mk (far_setCells (Ne.symm N30) [.int .u8 (n 0), .int .u8 (n 1), .int .u8 (n 2), .int .u8 (n 3), .int .u8 (n 4), .int .u8 (n 5), .int .u8 (n 6), .int .u8 (n 7), .int .u8 (n 8), .int .u8 (n 9), .int .u8 (n 10), .int .u8 (n 11), .int .u8 (n 12), .int .u8 (n 13), .int .u8 (n 14), .int .u8 (n 15), .int .u8 (n 16), .int .u8 (n 17), .int .u8 (n 18), .int .u8 (n 19)] 0 w58 H64.out)
  have H71 := Aside0.mk (far_setCells (Ne.symm N40) [.int .u8 (n 0), .int .u8 (n 1), .int .u8 (n 2), .int .u8 (n 3), .int .u8 (n 4), .int .u8 (n 5), .int .u8 (n 6), .int .u8 (n 7), .int .u8 (n 8), .int .u8 (n 9), .int .u8 (n 10), .int .u8 (n 11), .int .u8 (n 12), .int .u8 (n 13), .int .u8 (n 14), .int .u8 (n 15), .int .u8 (n 16), .int .u8 (n 17), .int .u8 (n 18), .int .u8 (n 19)] 0 w58 H65.out)
  have B72 := Aside0.mk (below_setCells G17 [.int .u8 (n 0), .int .u8 (n 1), .int .u8 (n 2), .int .u8 (n 3), .int .u8 (n 4), .int .u8 (n 5), .int .u8 (n 6), .int .u8 (n 7), .int .u8 (n 8), .int .u8 (n 9), .int .u8 (n 10), .int .u8 (n 11), .int .u8 (n 12), .int .u8 (n 13), .int .u8 (n 14), .int .u8 (n 15), .int .u8 (n 16), .int .u8 (n 17), .int .u8 (n 18), .int .u8 (n 19)] 0 w58 B59.out)
  clear H63 H61 H62 H64 H65 B59
  generalize World.setCells w58 g13 0 [.int .u8 (n 0), .int .u8 (n 1), .int .u8 (n 2), .int .u8 (n 3), .int .u8 (n 4), .int .u8 (n 5), .int .u8 (n 6), .int .u8 (n 7), .int .u8 (n 8), .int .u8 (n 9), .int .u8 (n 10), .int .u8 (n 11), .int .u8 (n 12), .int .u8 (n 13), .int .u8 (n 14), .int .u8 (n 15), .int .u8 (n 16), .int .u8 (n 17), .int .u8 (n 18), .int .u8 (n 19)] = w66 at H68 H69 H67 H70 H71 B72 ⊢
  refine hK.out _ _ ?_
  clear hK K
  refine pure_ (i := 9) (N := some 5) (v := ?_) (a' := ?_) #[true, true, true, true, true, true, true, true, true, true] rfl rfl (by kernel_rfl) (fun _ _ _ h => h) (Or.inl ⟨by rfl, ?_⟩) ?_ ?_
  rotate_left
  · intro w'
    go_simp
    with_reducible rfl
  rotate_left
  · simp only [Act.put, List.setIfInBounds_toArray, List.set_cons_zero, List.set_cons_succ, i64_w, i32_w]
    rfl
  refine done_ (by kernel_rfl) ?_
  go_wp2_with fail
  exact bodyPost_ret (results_ct rfl _ _ g13 23 #[.int .u8 (n 0), .int .u8 (n 1), .int .u8 (n 2), .int .u8 (n 3), .int .u8 (n 4), .int .u8 (n 5), .int .u8 (n 6), .int .u8 (n 7), .int .u8 (n 8), .int .u8 (n 9), .int .u8 (n 10), .int .u8 (n 11), .int .u8 (n 12), .int .u8 (n 13), .int .u8 (n 14), .int .u8 (n 15), .int .u8 (n 16), .int .u8 (n 17), .int .u8 (n 18), .int .u8 (n 19)] (0, 0) _ rfl H67.out Tryd.underlying23 rfl (by kernel_rfl)) rfl ⟨rfl, B72.out⟩
theorem node_calls (a b : Dg) (w : World) (hT : TabQ w) : Calls Tryd.prog 78 #[.agg #[.int .u8 (a 0), .int .u8 (a 1), .int .u8 (a 2), .int .u8 (a 3), .int .u8 (a 4), .int .u8 (a 5), .int .u8 (a 6), .int .u8 (a 7), .int .u8 (a 8), .int .u8 (a 9), .int .u8 (a 10), .int .u8 (a 11), .int .u8 (a 12), .int .u8 (a 13), .int .u8 (a 14), .int .u8 (a 15), .int .u8 (a 16), .int .u8 (a 17), .int .u8 (a 18), .int .u8 (a 19)], .agg #[.int .u8 (b 0), .int .u8 (b 1), .int .u8 (b 2), .int .u8 (b 3), .int .u8 (b 4), .int .u8 (b 5), .int .u8 (b 6), .int .u8 (b 7), .int .u8 (b 8), .int .u8 (b 9), .int .u8 (b 10), .int .u8 (b 11), .int .u8 (b 12), .int .u8 (b 13), .int .u8 (b 14), .int .u8 (b 15), .int .u8 (b 16), .int .u8 (b 17), .int .u8 (b 18), .int .u8 (b 19)]] w fun e w' => e = .returned (.tuple #[.agg #[.int .u8 (ndg a b 0), .int .u8 (ndg a b 1), .int .u8 (ndg a b 2), .int .u8 (ndg a b 3), .int .u8 (ndg a b 4), .int .u8 (ndg a b 5), .int .u8 (ndg a b 6), .int .u8 (ndg a b 7), .int .u8 (ndg a b 8), .int .u8 (ndg a b 9), .int .u8 (ndg a b 10), .int .u8 (ndg a b 11), .int .u8 (ndg a b 12), .int .u8 (ndg a b 13), .int .u8 (ndg a b 14), .int .u8 (ndg a b 15), .int .u8 (ndg a b 16), .int .u8 (ndg a b 17), .int .u8 (ndg a b 18), .int .u8 (ndg a b 19)], .int .i64 0]) ∧ Below w.heap.size w w' := node_walk a b w hT (ndg a b) (fun W A1 c1 hT hC hc => node_sum a b A1 c1 W hT hC hc)
set_option maxHeartbeats 800000 in
set_option maxRecDepth 100000 in
theorem leafw_many (A : Option Addr) (c : Nat) (l : List Int) (w : World) (hlen : 10000 < l.length) : Calls Tryd.prog 39 #[.slice A l.length c] w fun e w' => e = .returned (.tuple #[.agg #[.int .u8 0, .int .u8 0, .int .u8 0, .int .u8 0, .int .u8 0, .int .u8 0, .int .u8 0, .int .u8 0, .int .u8 0, .int .u8 0, .int .u8 0, .int .u8 0, .int .u8 0, .int .u8 0, .int .u8 0, .int .u8 0, .int .u8 0, .int .u8 0, .int .u8 0, .int .u8 0], .int .i64 4]) ∧ Below w.heap.size w w' := by
  have t1 : (10000 < (l.length : Int)) = True := eq_true (by omega)
  go_enter Tryd.func39, Tryd.ntmps39
  go_wp2_with (first | ((with_reducible refine gate_dst (N := 2) rfl ?_); refine box_event ?hg (N := 2) ?hd (cs := #[.int .u8 0, .int .u8 0, .int .u8 0, .int .u8 0, .int .u8 0, .int .u8 0, .int .u8 0, .int .u8 0, .int .u8 0, .int .u8 0, .int .u8 0, .int .u8 0, .int .u8 0, .int .u8 0, .int .u8 0, .int .u8 0, .int .u8 0, .int .u8 0, .int .u8 0, .int .u8 0]) (t := 23) ?hr ?_; (case hd => rfl); (case hg => rfl); (case hr => first | (go_simp; done) | (go_simp; rfl)); intro g1 hgg1 w2 hhg1 hbg1; have H5 := Aside0.mk hhg1; have G3 : w.heap.size ≤ g1 := Nat.le_of_eq hgg1.symm; have B4 := Aside0.mk (hbg1); clear hgg1 hhg1 hbg1) | ((with_reducible refine gate_store (t := 23) (p := _) rfl ?_); refine storeN_event (T := 23) rfl rfl rfl rfl rfl (storeVar_blk H5.out 23 0 [.int .u8 0, .int .u8 0, .int .u8 0, .int .u8 0, .int .u8 0, .int .u8 0, .int .u8 0, .int .u8 0, .int .u8 0, .int .u8 0, .int .u8 0, .int .u8 0, .int .u8 0, .int .u8 0, .int .u8 0, .int .u8 0, .int .u8 0, .int .u8 0, .int .u8 0, .int .u8 0] (by kernel_rfl) rfl (by simp)) ?_; have H7 := Aside0.mk (show (World.setCells w2 g1 0 [.int .u8 0, .int .u8 0, .int .u8 0, .int .u8 0, .int .u8 0, .int .u8 0, .int .u8 0, .int .u8 0, .int .u8 0, .int .u8 0, .int .u8 0, .int .u8 0, .int .u8 0, .int .u8 0, .int .u8 0, .int .u8 0, .int .u8 0, .int .u8 0, .int .u8 0, .int .u8 0]).heap[g1]? = some (.cells #[.int .u8 0, .int .u8 0, .int .u8 0, .int .u8 0, .int .u8 0, .int .u8 0, .int .u8 0, .int .u8 0, .int .u8 0, .int .u8 0, .int .u8 0, .int .u8 0, .int .u8 0, .int .u8 0, .int .u8 0, .int .u8 0, .int .u8 0, .int .u8 0, .int .u8 0, .int .u8 0] 23 (0, 0)) from blk_setCells [] [.int .u8 0, .int .u8 0, .int .u8 0, .int .u8 0, .int .u8 0, .int .u8 0, .int .u8 0, .int .u8 0, .int .u8 0, .int .u8 0, .int .u8 0, .int .u8 0, .int .u8 0, .int .u8 0, .int .u8 0, .int .u8 0, .int .u8 0, .int .u8 0, .int .u8 0, .int .u8 0] [.int .u8 0, .int .u8 0, .int .u8 0, .int .u8 0, .int .u8 0, .int .u8 0, .int .u8 0, .int .u8 0, .int .u8 0, .int .u8 0, .int .u8 0, .int .u8 0, .int .u8 0, .int .u8 0, .int .u8 0, .int .u8 0, .int .u8 0, .int .u8 0, .int .u8 0, .int .u8 0] [] w2 rfl H5.out); have B8 := Aside0.mk (below_setCells G3 [.int .u8 0, .int .u8 0, .int .u8 0, .int .u8 0, .int .u8 0, .int .u8 0, .int .u8 0, .int .u8 0, .int .u8 0, .int .u8 0, .int .u8 0, .int .u8 0, .int .u8 0, .int .u8 0, .int .u8 0, .int .u8 0, .int .u8 0, .int .u8 0, .int .u8 0, .int .u8 0] 0 w2 B4.out); clear H5 B4; generalize World.setCells w2 g1 0 [.int .u8 0, .int .u8 0, .int .u8 0, .int .u8 0, .int .u8 0, .int .u8 0, .int .u8 0, .int .u8 0, .int .u8 0, .int .u8 0, .int .u8 0, .int .u8 0, .int .u8 0, .int .u8 0, .int .u8 0, .int .u8 0, .int .u8 0, .int .u8 0, .int .u8 0, .int .u8 0] = w6 at H7 B8 ⊢))
  exact bodyPost_ret (results_ct rfl _ _ g1 23 #[.int .u8 0, .int .u8 0, .int .u8 0, .int .u8 0, .int .u8 0, .int .u8 0, .int .u8 0, .int .u8 0, .int .u8 0, .int .u8 0, .int .u8 0, .int .u8 0, .int .u8 0, .int .u8 0, .int .u8 0, .int .u8 0, .int .u8 0, .int .u8 0, .int .u8 0, .int .u8 0] (0, 0) _ rfl H7.out Tryd.underlying23 rfl (by kernel_rfl)) rfl ⟨rfl, B8.out⟩
set_option maxHeartbeats 800000 in
set_option maxRecDepth 100000 in
theorem leafw_ok (A : Option Addr) (c : Nat) (l : List Int) (w : World) (hT : TabQ w) (hr : Kd.C (Kd.int .u8) w A l.length l) (hlen : ¬ 10000 < l.length) (n : Dg) (hs : ∀ (W : World) (A1 : Option Addr) (c1 : Nat), TabQ W → Kd.C (Kd.int .u8) W A1 ([0] ++ l).length ([0] ++ l) → ([0] ++ l).length ≤ c1 → Calls Tryd.prog 44 #[.slice A1 ([0] ++ l).length c1] W fun e w' => e = .returned (.tuple #[.agg #[.int .u8 (n 0), .int .u8 (n 1), .int .u8 (n 2), .int .u8 (n 3), .int .u8 (n 4), .int .u8 (n 5), .int .u8 (n 6), .int .u8 (n 7), .int .u8 (n 8), .int .u8 (n 9), .int .u8 (n 10), .int .u8 (n 11), .int .u8 (n 12), .int .u8 (n 13), .int .u8 (n 14), .int .u8 (n 15), .int .u8 (n 16), .int .u8 (n 17), .int .u8 (n 18), .int .u8 (n 19)], .int .i64 0]) ∧ Below W.heap.size W w') : Calls Tryd.prog 39 #[.slice A l.length c] w fun e w' => e = .returned (.tuple #[.agg #[.int .u8 (n 0), .int .u8 (n 1), .int .u8 (n 2), .int .u8 (n 3), .int .u8 (n 4), .int .u8 (n 5), .int .u8 (n 6), .int .u8 (n 7), .int .u8 (n 8), .int .u8 (n 9), .int .u8 (n 10), .int .u8 (n 11), .int .u8 (n 12), .int .u8 (n 13), .int .u8 (n 14), .int .u8 (n 15), .int .u8 (n 16), .int .u8 (n 17), .int .u8 (n 18), .int .u8 (n 19)], .int .i64 0]) ∧ Below w.heap.size w w' := by
  have t1 : (10000 < (l.length : Int)) = False := eq_false (by omega)
  have HhT := Aside0.mk hT
  have Hhr := Aside0.mk hr
  have Hhlen := Aside0.mk hlen
  have Hhs := Aside0.mk hs
  clear hT hr hlen hs
  go_enter Tryd.func39, Tryd.ntmps39
  go_wp2_with (first | ((with_reducible refine gate_dst (N := 2) rfl ?_); refine box_event ?hg (N := 2) ?hd (cs := #[.int .u8 0, .int .u8 0, .int .u8 0, .int .u8 0, .int .u8 0, .int .u8 0, .int .u8 0, .int .u8 0, .int .u8 0, .int .u8 0, .int .u8 0, .int .u8 0, .int .u8 0, .int .u8 0, .int .u8 0, .int .u8 0, .int .u8 0, .int .u8 0, .int .u8 0, .int .u8 0]) (t := 23) ?hr ?_; (case hd => rfl); (case hg => rfl); (case hr => first | (go_simp; done) | (go_simp; rfl)); intro g1 hgg1 w2 hhg1 hbg1; have H5 := Aside0.mk hhg1; have G3 : w.heap.size ≤ g1 := Nat.le_of_eq hgg1.symm; have B4 := Aside0.mk (hbg1); clear hgg1 hhg1 hbg1) | ((with_reducible refine gate_dst (N := 8) rfl ?_); refine Kd.R_lit (Kd.int .u8) (w0 := w) _ 5 ?hg (N := 8) ?hd (xs := ([0] : List Int)) (inner := [.int .u8 (0)]) (ok := fun _ => True) (okp := fun _ => True) ?hr ?hp (fun _ hk => hk) trivial B4.out (below_size B4.out) (by simp) ?_; (case hd => rfl); (case hg => rfl); (case hr => first | (go_simp; done) | (go_simp; rfl) | (go_simp; simp only [IntKind.wrap_u8]; done) | (go_simp; simp only [IntKind.wrap_u8]; rfl)); (case hp => exact reps_ints .u8 [0]); intro v7 w6 ho_ hb_ hg_ _; have HO8 := Aside0.mk ho_; have H9 := Aside0.mk (blk_grown H5.out hg_ (by simp)); have B10 := Aside0.mk hb_; clear ho_ hb_ hg_ H5 B4) | ((with_reducible refine gate_dst (N := 10) rfl ?_); (with_reducible refine gate_builtin (b := .append) (xs := #[.tmp 8, .tmp 9]) rfl ?_); at_builtin; refine Kd.R_append_rows (Kd.int .u8) (w0 := w) w.heap.size rfl (.tmp 8) (.tmp 9) 26 5 (.int .u8 0) 1 rfl Tryd.underlying26 info5p rfl (by decide) (by omega) _ [0] l _ _ _ (fun _ => True) (fun _ => False) rfl rfl ?aO ?aR (fun _ _ h => h) (fun _ h => h.elim) ?aF ?aB ?aS ?aL ?_; (case aR => exact (Kd.C_below Hhr.out B10.out)); (case aB => exact B10.out); (case aF => exact (fun _ _ => trivial)); (case aO => exact HO8.out); (case aS => exact below_size B10.out); (case aL => have := Hhlen.out; simp only [List.length_cons, List.length_nil]; omega); intro v12 w11 ho hb hg hat; have HO13 := Aside0.mk ho; have H14 := Aside0.mk (blk_grown H9.out hg (Kd.R_ne HO8.out H9.out (by decide))); have B15 := Aside0.mk hb; clear ho hb hg hat HO8 H9 B10))
  obtain ⟨rx, c_rx, rfl, hle_, hC_⟩ := Kd.R_reads HO13.out
  have R16 := Aside0.mk hC_
  have L17 := Aside0.mk hle_
  clear hle_ hC_ HO13
  go_wp2_with fail
  refine (Hhs.out w11 rx c_rx (HhT.out.at B15.out) (Kd.C_below R16.out (Below.refl _ _)) L17.out).mono ?_
  rintro e w18 ⟨rfl, hb_⟩
  have B19 := Aside0.mk (below_step B15.out hb_)
  have B20 := Aside0.mk (hb_)
  have H21 := Aside0.mk (blk_below H14.out hb_)
  clear hb_ B15 H14
  go_wp2_with (first | ((with_reducible refine gate_store (t := 23) (p := _) rfl ?_); refine storeN_event (T := 23) rfl rfl rfl rfl rfl (storeVar_blk H21.out 23 0 [.int .u8 (n 0), .int .u8 (n 1), .int .u8 (n 2), .int .u8 (n 3), .int .u8 (n 4), .int .u8 (n 5), .int .u8 (n 6), .int .u8 (n 7), .int .u8 (n 8), .int .u8 (n 9), .int .u8 (n 10), .int .u8 (n 11), .int .u8 (n 12), .int .u8 (n 13), .int .u8 (n 14), .int .u8 (n 15), .int .u8 (n 16), .int .u8 (n 17), .int .u8 (n 18), .int .u8 (n 19)] (by kernel_rfl) rfl (by simp)) ?_; have H23 := Aside0.mk (show (World.setCells w18 g1 0 [.int .u8 (n 0), .int .u8 (n 1), .int .u8 (n 2), .int .u8 (n 3), .int .u8 (n 4), .int .u8 (n 5), .int .u8 (n 6), .int .u8 (n 7), .int .u8 (n 8), .int .u8 (n 9), .int .u8 (n 10), .int .u8 (n 11), .int .u8 (n 12), .int .u8 (n 13), .int .u8 (n 14), .int .u8 (n 15), .int .u8 (n 16), .int .u8 (n 17), .int .u8 (n 18), .int .u8 (n 19)]).heap[g1]? = some (.cells #[.int .u8 (n 0), .int .u8 (n 1), .int .u8 (n 2), .int .u8 (n 3), .int .u8 (n 4), .int .u8 (n 5), .int .u8 (n 6), .int .u8 (n 7), .int .u8 (n 8), .int .u8 (n 9), .int .u8 (n 10), .int .u8 (n 11), .int .u8 (n 12), .int .u8 (n 13), .int .u8 (n 14), .int .u8 (n 15), .int .u8 (n 16), .int .u8 (n 17), .int .u8 (n 18), .int .u8 (n 19)] 23 (0, 0)) from blk_setCells [] [.int .u8 (n 0), .int .u8 (n 1), .int .u8 (n 2), .int .u8 (n 3), .int .u8 (n 4), .int .u8 (n 5), .int .u8 (n 6), .int .u8 (n 7), .int .u8 (n 8), .int .u8 (n 9), .int .u8 (n 10), .int .u8 (n 11), .int .u8 (n 12), .int .u8 (n 13), .int .u8 (n 14), .int .u8 (n 15), .int .u8 (n 16), .int .u8 (n 17), .int .u8 (n 18), .int .u8 (n 19)] [.int .u8 0, .int .u8 0, .int .u8 0, .int .u8 0, .int .u8 0, .int .u8 0, .int .u8 0, .int .u8 0, .int .u8 0, .int .u8 0, .int .u8 0, .int .u8 0, .int .u8 0, .int .u8 0, .int .u8 0, .int .u8 0, .int .u8 0, .int .u8 0, .int .u8 0, .int .u8 0] [] w18 rfl H21.out); have B24 := Aside0.mk (below_setCells G3 [.int .u8 (n 0), .int .u8 (n 1), .int .u8 (n 2), .int .u8 (n 3), .int .u8 (n 4), .int .u8 (n 5), .int .u8 (n 6), .int .u8 (n 7), .int .u8 (n 8), .int .u8 (n 9), .int .u8 (n 10), .int .u8 (n 11), .int .u8 (n 12), .int .u8 (n 13), .int .u8 (n 14), .int .u8 (n 15), .int .u8 (n 16), .int .u8 (n 17), .int .u8 (n 18), .int .u8 (n 19)] 0 w18 B19.out); clear H21 B19; generalize World.setCells w18 g1 0 [.int .u8 (n 0), .int .u8 (n 1), .int .u8 (n 2), .int .u8 (n 3), .int .u8 (n 4), .int .u8 (n 5), .int .u8 (n 6), .int .u8 (n 7), .int .u8 (n 8), .int .u8 (n 9), .int .u8 (n 10), .int .u8 (n 11), .int .u8 (n 12), .int .u8 (n 13), .int .u8 (n 14), .int .u8 (n 15), .int .u8 (n 16), .int .u8 (n 17), .int .u8 (n 18), .int .u8 (n 19)] = w22 at H23 B24 ⊢))
  exact bodyPost_ret (results_ct rfl _ _ g1 23 #[.int .u8 (n 0), .int .u8 (n 1), .int .u8 (n 2), .int .u8 (n 3), .int .u8 (n 4), .int .u8 (n 5), .int .u8 (n 6), .int .u8 (n 7), .int .u8 (n 8), .int .u8 (n 9), .int .u8 (n 10), .int .u8 (n 11), .int .u8 (n 12), .int .u8 (n 13), .int .u8 (n 14), .int .u8 (n 15), .int .u8 (n 16), .int .u8 (n 17), .int .u8 (n 18), .int .u8 (n 19)] (0, 0) _ rfl H23.out Tryd.underlying23 rfl (by kernel_rfl)) rfl ⟨rfl, B24.out⟩
theorem leaf_ok (A : Option Addr) (c : Nat) (l : List Int) (w : World) (hT : TabQ w) (hr : Kd.C (Kd.int .u8) w A l.length l) (hlen : ¬ 10000 < l.length) : Calls Tryd.prog 39 #[.slice A l.length c] w fun e w' => e = .returned (.tuple #[.agg #[.int .u8 (lfg l 0), .int .u8 (lfg l 1), .int .u8 (lfg l 2), .int .u8 (lfg l 3), .int .u8 (lfg l 4), .int .u8 (lfg l 5), .int .u8 (lfg l 6), .int .u8 (lfg l 7), .int .u8 (lfg l 8), .int .u8 (lfg l 9), .int .u8 (lfg l 10), .int .u8 (lfg l 11), .int .u8 (lfg l 12), .int .u8 (lfg l 13), .int .u8 (lfg l 14), .int .u8 (lfg l 15), .int .u8 (lfg l 16), .int .u8 (lfg l 17), .int .u8 (lfg l 18), .int .u8 (lfg l 19)], .int .i64 0]) ∧ Below w.heap.size w w' := leafw_ok A c l w hT hr hlen (lfg l) (fun W A1 c1 hT hC hc => leaf_sum l (Nat.le_of_not_lt hlen) A1 c1 W hT hC hc)
end Go.Proofs.YtbldecdipicddaaDoor.Hand
