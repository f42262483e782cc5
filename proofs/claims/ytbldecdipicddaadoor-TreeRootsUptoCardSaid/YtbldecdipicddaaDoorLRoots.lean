/- TreeRoots answers true of lists of at most 1000000000 bytes. Written by wip/s1/mklroots.py. -/
import Derived.Test.YtbldecdipicddaaDoorLRoot
import Derived.Test.YtbldecdipicddaaDoorHRootR
import Derived.Test.YtbldecdipicddaaDoorHNodeR
import Derived.Test.YtbldecdipicddaaDoorHRProof
import Derived.Test.YtbldecdipicddaaDoorHProve
import Derived.Test.YtbldecdipicddaaDoorHRoots
import Derived.Test.YtbldecdipicddaaDoorHRefRP
import Derived.Test.YtbldecdipicddaaDoorHDigests
set_option linter.unusedSimpArgs false
set_option linter.unusedVariables false
namespace Go.Proofs.YtbldecdipicddaaDoor.Hand
open Go Go.RowKit Go.Proofs.YtbldecdipicddaaDoorW.PrintWords Go.Proofs.YtbldecdipicddaaDoor.QZ
theorem rroot_calls : ∀ (f : Nat) (A : Option Addr) (c : Nat) (l : List Dg) (w : World), l.length ≤ f → l.length ≤ 600 → Kd.C kdg w A l.length l → l.length ≤ c → (∀ j, j < l.length → dgr (l.getD j zdg)) → Calls Tryd.prog 87 #[.slice A l.length c] w fun e w' => e = .returned (.agg #[.int .u8 (rootg f l 0), .int .u8 (rootg f l 1), .int .u8 (rootg f l 2), .int .u8 (rootg f l 3), .int .u8 (rootg f l 4), .int .u8 (rootg f l 5), .int .u8 (rootg f l 6), .int .u8 (rootg f l 7), .int .u8 (rootg f l 8), .int .u8 (rootg f l 9), .int .u8 (rootg f l 10), .int .u8 (rootg f l 11), .int .u8 (rootg f l 12), .int .u8 (rootg f l 13), .int .u8 (rootg f l 14), .int .u8 (rootg f l 15), .int .u8 (rootg f l 16), .int .u8 (rootg f l 17), .int .u8 (rootg f l 18), .int .u8 (rootg f l 19)]) ∧ Below w.heap.size w w'
  | 0, A, c, l, w, hf0, hl, hr, hc, hg => by
    rw [show l.length = 0 by omega]
    exact rroot_zero A c w
  | f + 1, A, c, l, w, hf0, hl, hr, hc, hg => by
    by_cases h0 : l.length = 0
    · have e : rootg (f + 1) l = zdg := by rw [rootg, if_pos h0]
      rw [e, h0]
      exact rroot_zero A c w
    by_cases h1 : l.length = 1
    · have e : rootg (f + 1) l = l.getD 0 zdg := by rw [rootg, if_neg h0, if_pos h1]
      obtain ⟨ad, rfl, _⟩ := hr.2.2 (by omega)
      have hld := fun (W : World) (hB : Below w.heap.size w W) => dg_load (i := 0) (Kd.C_below hr hB) (by omega)
      rw [e, h1]
      exact rroot_one ad c (l.getD 0 zdg) w (fun W hB => by have := hld W hB; rwa [Nat.zero_mul, Addr.add_zero'] at this)
    · have h2 := hf_all l.length (by omega) (by omega)
      have e : rootg (f + 1) l = ndg (rootg f (l.take (hf l.length))) (rootg f (l.drop (hf l.length))) := by rw [rootg, if_neg h0, if_neg h1]
      have ht : (l.take (hf l.length)).length = hf l.length := by rw [List.length_take, Nat.min_eq_left (by omega)]
      have hd : (l.drop (hf l.length)).length = l.length - hf l.length := List.length_drop
      obtain ⟨A2, hcut, hC2⟩ := cut55b A l.length c (hf l.length) (by omega) hc
      have g1 : ∀ j, j < (l.take (hf l.length)).length → dgr ((l.take (hf l.length)).getD j zdg) := by
        intro j hj
        rw [ht] at hj
        have := hg j (by omega)
        rwa [List.getD_eq_getElem?_getD, List.getElem?_take, if_pos hj, ← List.getD_eq_getElem?_getD]
      have g2 : ∀ j, j < (l.drop (hf l.length)).length → dgr ((l.drop (hf l.length)).getD j zdg) := by
        intro j hj
        rw [hd] at hj
        have := hg (hf l.length + j) (by omega)
        rwa [List.getD_eq_getElem?_getD, List.getElem?_drop, ← List.getD_eq_getElem?_getD]
      rw [e]
      exact rroot_more l.length (hf l.length) c A A2 (rootg f (l.take (hf l.length))) (rootg f (l.drop (hf l.length))) (ndg (rootg f (l.take (hf l.length))) (rootg f (l.drop (hf l.length)))) w (by omega) (by omega) hc hcut (fun W => rhalf_calls l.length (by omega) hl W)
        (fun W hB => by
          have := rroot_calls f A c (l.take (hf l.length)) W (by omega) (by omega) (Kd.C_take (Kd.C_below hr hB) (by omega)) (by omega) g1
          rw [ht] at this
          exact this)
        (fun W hB => by
          have := rroot_calls f A2 (c - hf l.length) (l.drop (hf l.length)) W (by omega) (by omega) (by rw [hd]; exact hC2 W l rfl (Kd.C_below hr hB)) (by omega) g2
          rw [hd] at this
          exact this)
        (fun W => rnode_calls _ _ (rootg_rng _ _ g1) (rootg_rng _ _ g2) W)
end Go.Proofs.YtbldecdipicddaaDoor.Hand
set_option linter.unusedSimpArgs false
set_option linter.unusedVariables false
namespace Go.Proofs.YtbldecdipicddaaDoor.Hand
open Go Go.RowKit Go.Proofs.YtbldecdipicddaaDoorW.PrintWords Go.Proofs.YtbldecdipicddaaDoor.QZ
theorem pwr_len (rt : List Dg → Dg) : ∀ (k : Nat) (l : List Dg) (i : Nat), l.length ≤ 600 → (pwr rt k l i).length ≤ l.length
  | 0, _, _, _ => Nat.zero_le _
  | k + 1, l, i, h => by
    by_cases h1 : l.length ≤ 1
    · rw [pwr, if_pos h1]; exact Nat.zero_le _
    · have hF := hf_all l.length (by omega) (by omega)
      by_cases hi : hf l.length ≤ i
      · rw [pwr_right rt k l i (by omega) hi, List.length_cons]
        have := pwr_len rt k (l.drop (hf l.length)) (i - hf l.length) (by rw [List.length_drop]; omega)
        rw [List.length_drop] at this
        omega
      · rw [pwr_left rt k l i (by omega) hi, List.length_cons]
        have := pwr_len rt k (l.take (hf l.length)) i (by rw [List.length_take]; omega)
        rw [List.length_take] at this
        omega
theorem rproof_calls : ∀ (k : Nat) (A : Option Addr) (c : Nat) (l : List Dg) (i : Nat) (w : World), l.length ≤ k → 1 ≤ l.length → l.length ≤ 600 → i < l.length → Kd.C kdg w A l.length l → l.length ≤ c → (∀ j, j < l.length → dgr (l.getD j zdg)) →
    Calls Tryd.prog 89 #[.slice A l.length c, .int .i64 (i : Int)] w fun e w' => ∃ v0_ : Value, e = .returned v0_ ∧ Kd.R kdg 23 w' w.heap.size (fun _ => True) v0_ (pwr (rootg 600) k l i).reverse ∧ Below w.heap.size w w'
  | 0, A, c, l, i, w, hk, h1, _, _, _, _, _ => absurd hk (by omega)
  | k + 1, A, c, l, i, w, hk, h1, hl, hi, hr, hc, hg => by
    by_cases h2 : l.length ≤ 1
    · have e1 : l.length = 1 := by omega
      rw [pwr_end _ _ _ _ h2, e1]
      exact rproof_one A c i w
    · have hF := hf_all l.length (by omega) (by omega)
      have ht : (l.take (hf l.length)).length = hf l.length := by rw [List.length_take, Nat.min_eq_left (by omega)]
      have hd : (l.drop (hf l.length)).length = l.length - hf l.length := List.length_drop
      obtain ⟨A2, hcut, hC2⟩ := cut55b A l.length c (hf l.length) (by omega) hc
      have g1 : ∀ j, j < (l.take (hf l.length)).length → dgr ((l.take (hf l.length)).getD j zdg) := by
        intro j hj
        rw [ht] at hj
        have := hg j (by omega)
        rwa [List.getD_eq_getElem?_getD, List.getElem?_take, if_pos hj, ← List.getD_eq_getElem?_getD]
      have g2 : ∀ j, j < (l.drop (hf l.length)).length → dgr ((l.drop (hf l.length)).getD j zdg) := by
        intro j hj
        rw [hd] at hj
        have := hg (hf l.length + j) (by omega)
        rwa [List.getD_eq_getElem?_getD, List.getElem?_drop, ← List.getD_eq_getElem?_getD]
      by_cases hi2 : hf l.length ≤ i
      · rw [pwr_right _ k l i (by omega) hi2, List.reverse_cons]
        have hw : wrap64 ((i : Int) - (hf l.length : Int)) = ((i - hf l.length : Nat) : Int) := by unfold wrap64; omega
        refine rproof_right l.length (hf l.length) c i A A2 (pwr (rootg 600) k (l.drop (hf l.length)) (i - hf l.length)).reverse (rootg 600 (l.take (hf l.length))) w (by omega) (by omega) hc hi2 (by rw [List.length_reverse]; have := pwr_len (rootg 600) k (l.drop (hf l.length)) (i - hf l.length) (by omega); omega) hcut (fun W => rhalf_calls l.length (by omega) hl W) (fun W hB => ?_) (fun W hB => ?_)
        · rw [hw]
          have := rproof_calls k A2 (c - hf l.length) (l.drop (hf l.length)) (i - hf l.length) W (by omega) (by omega) (by omega) (by omega) (by rw [hd]; exact hC2 W l rfl (Kd.C_below hr hB)) (by omega) g2
          rw [hd] at this
          exact this
        · have := rroot_calls 600 A c (l.take (hf l.length)) W (by omega) (by omega) (Kd.C_take (Kd.C_below hr hB) (by omega)) (by omega) g1
          rw [ht] at this
          exact this
      · rw [pwr_left _ k l i (by omega) hi2, List.reverse_cons]
        refine rproof_left l.length (hf l.length) c i A A2 (pwr (rootg 600) k (l.take (hf l.length)) i).reverse (rootg 600 (l.drop (hf l.length))) w (by omega) (by omega) hc (by omega) (by rw [List.length_reverse]; have := pwr_len (rootg 600) k (l.take (hf l.length)) i (by omega); omega) hcut (fun W => rhalf_calls l.length (by omega) hl W) (fun W hB => ?_) (fun W hB => ?_)
        · have := rproof_calls k A c (l.take (hf l.length)) i W (by omega) (by omega) (by omega) (by omega) (Kd.C_take (Kd.C_below hr hB) (by omega)) (by omega) g1
          rw [ht] at this
          exact this
        · have := rroot_calls 600 A2 (c - hf l.length) (l.drop (hf l.length)) W (by omega) (by omega) (by rw [hd]; exact hC2 W l rfl (Kd.C_below hr hB)) (by omega) g2
          rw [hd] at this
          exact this
end Go.Proofs.YtbldecdipicddaaDoor.Hand
set_option linter.unusedSimpArgs false
set_option linter.unusedVariables false
namespace Go.Proofs.YtbldecdipicddaaDoor.Hand
open Go Go.RowKit Go.Proofs.YtbldecdipicddaaDoorW.PrintWords Go.Proofs.YtbldecdipicddaaDoor.QZ
theorem drewn_below {e : Ending} {w w' : World} {v : Value} (h : e = .returned v ∧ Drawn0 w w') : e = .returned v ∧ Below w.heap.size w w' := ⟨h.1, by obtain ⟨m, hm⟩ := h.2; rw [hm]; exact pw_below_drewN (Below.refl _ _) m⟩
theorem eq_below {e : Ending} {w w' : World} {v : Value} (h : e = .returned v ∧ w' = w) : e = .returned v ∧ Below w.heap.size w w' := ⟨h.1, by rw [h.2]; exact Below.refl _ _⟩
theorem nil_row {e : Ending} {w w' : World} {v : Value} (q : Int) (h : e = .returned (.tuple #[.slice none 0 0, .int .i64 q]) ∧ Below w.heap.size w w') : ∃ v0_ : Value, e = .returned (.tuple #[v0_, .int .i64 q]) ∧ Kd.R kdg 23 w' w.heap.size (fun _ => True) v0_ [] ∧ Below w.heap.size w w' := ⟨_, h.1, Kd.R_nil _ _ _ _ _, h.2⟩
/-- What both Leafs answer. -/
theorem leaf_both (B : Option Addr) (cb : Nat) (lb : List Int) (w : World) (hrb : Kd.C (Kd.int .u8) w B lb.length lb) (hb : ∀ z ∈ lb, 0 ≤ z ∧ z < 256) : ∃ (x : Dg) (eb : Int),
    (∀ W : World, TabQ W → Below w.heap.size w W → Calls Tryd.prog 39 #[.slice B lb.length cb] W fun e w' => e = .returned (.tuple #[.agg #[.int .u8 (x 0), .int .u8 (x 1), .int .u8 (x 2), .int .u8 (x 3), .int .u8 (x 4), .int .u8 (x 5), .int .u8 (x 6), .int .u8 (x 7), .int .u8 (x 8), .int .u8 (x 9), .int .u8 (x 10), .int .u8 (x 11), .int .u8 (x 12), .int .u8 (x 13), .int .u8 (x 14), .int .u8 (x 15), .int .u8 (x 16), .int .u8 (x 17), .int .u8 (x 18), .int .u8 (x 19)], .int .i64 eb]) ∧ Below W.heap.size W w') ∧
    (∀ W : World, TabQ W → Below w.heap.size w W → Calls Tryd.prog 60 #[.slice B lb.length cb] W fun e w' => e = .returned (.tuple #[.agg #[.int .u8 (x 0), .int .u8 (x 1), .int .u8 (x 2), .int .u8 (x 3), .int .u8 (x 4), .int .u8 (x 5), .int .u8 (x 6), .int .u8 (x 7), .int .u8 (x 8), .int .u8 (x 9), .int .u8 (x 10), .int .u8 (x 11), .int .u8 (x 12), .int .u8 (x 13), .int .u8 (x 14), .int .u8 (x 15), .int .u8 (x 16), .int .u8 (x 17), .int .u8 (x 18), .int .u8 (x 19)], .int .i64 eb]) ∧ Below W.heap.size W w') := by
  by_cases h : 10000 < lb.length
  · exact ⟨zdg, 4, fun W _ _ => leafw_many B cb lb W h, fun W _ _ => rleafw_many B cb lb W h⟩
  · exact ⟨lfg lb, 0, fun W hT hB => leaf_ok B cb lb W hT (Kd.C_below hrb hB) h, fun W hT hB => rleaf_ok B cb lb W (Kd.C_below hrb hB) h hb⟩
/-- What both Steps answer. -/
theorem steps_both (n i : Int) : ∃ (m es : Int),
    (∀ W : World, Calls Tryd.prog 37 #[.int .i64 n, .int .i64 i] W fun e w' => e = .returned (.tuple #[.int .i64 m, .int .i64 es]) ∧ Below W.heap.size W w') ∧
    (∀ W : World, Calls Tryd.prog 63 #[.int .i64 n, .int .i64 i] W fun e w' => e = .returned (.tuple #[.int .i64 m, .int .i64 es]) ∧ Below W.heap.size W w') := by
  by_cases hbad : n < 1 ∨ n > 600 ∨ i < 0 ∨ i ≥ n
  · have e1 : tree_Steps.f 1 n i = some (0, 2) := by
      unfold tree_Steps.f
      by_cases h1 : n < 1
      · rw [if_pos h1]
      rw [if_neg h1]
      by_cases h2 : n > 600
      · rw [if_pos h2]
      rw [if_neg h2]
      by_cases h3 : i < 0
      · rw [if_pos h3]
      rw [if_neg h3, if_pos (by omega)]
    have e2 : bitloftref41_Steps.f 1 n i = some (0, 2) := by
      unfold bitloftref41_Steps.f
      by_cases h1 : n < 1
      · rw [if_pos h1]
      rw [if_neg h1]
      by_cases h2 : n > 600
      · rw [if_pos h2]
      rw [if_neg h2]
      by_cases h3 : i < 0
      · rw [if_pos h3]
      rw [if_neg h3, if_pos (by omega)]
    exact ⟨0, 2, fun W => tree_Steps.calls 1 n i 0 2 W e1, fun W => (bitloftref41_Steps.calls 1 n i 0 2 W e2).mono (fun e w' h => drewn_below h)⟩
  obtain ⟨nn, rfl⟩ := Int.eq_ofNat_of_zero_le (show 0 ≤ n by omega)
  obtain ⟨ii, rfl⟩ := Int.eq_ofNat_of_zero_le (show 0 ≤ i by omega)
  obtain ⟨s, hs, hsl⟩ := Sd_ex nn ii (by omega) (by omega)
  have hsd : tree_sides.f (s.length + 6) (nn : Int) (ii : Int) = some s := by
    have := sides_eq s nn ii [] hs (by omega) (by simp; omega)
    rwa [List.nil_append] at this
  have hst : tree_Steps.f (s.length + 6) (nn : Int) (ii : Int) = some ((s.length : Int), 0) := by
    unfold tree_Steps.f
    rw [if_neg (by omega), if_neg (by omega), if_neg (by omega), if_neg (by omega), hsd]
    rfl
  have hrs : bitloftref41_steps.f (s.length + 13) (nn : Int) (ii : Int) = some (s.length : Int) := steps_eq s nn ii hs (by omega) (by omega)
  have hrst : bitloftref41_Steps.f (s.length + 13) (nn : Int) (ii : Int) = some ((s.length : Int), 0) := by
    unfold bitloftref41_Steps.f
    rw [if_neg (by omega), if_neg (by omega), if_neg (by omega), if_neg (by omega), hrs]
    rfl
  exact ⟨s.length, 0, fun W => tree_Steps.calls (s.length + 6) (nn : Int) (ii : Int) (s.length : Int) 0 W hst, fun W => (bitloftref41_Steps.calls (s.length + 13) (nn : Int) (ii : Int) (s.length : Int) 0 W hrst).mono (fun e w' h => drewn_below h)⟩
section
variable (A : Option Addr) (c : Nat) (ll : List (List Int)) (w : World) (hr : Kd.C (Kd.slice 5 (Kd.int .u8)) w A ll.length ll) (hlc : ll.length ≤ c) (hwf : ∀ j, j < ll.length → ∀ z ∈ ll.getD j [], 0 ≤ z ∧ z < 256) (hg : great ll = false)
theorem no_long (ll : List (List Int)) (hg : great ll = false) (hl : ll.length ≤ 20) : ll.any long = false := by
  rw [List.any_eq_false]
  intro x hx
  obtain ⟨j, hj, rfl⟩ := List.mem_iff_getElem.1 hx
  have := fit_of hg hl j hj
  rw [List.getD_eq_getElem?_getD, List.getElem?_eq_getElem hj] at this
  have h2 : ll[j].length ≤ 600 := this
  unfold long
  simp
  omega
theorem lf_rng (ll : List (List Int)) (j : Nat) (h : j < (ll.map lfg).length) : dgr ((ll.map lfg).getD j zdg) := by
  rw [List.getD_eq_getElem?_getD, List.getElem?_eq_getElem h, List.getElem_map]
  exact lfg_rng _
include hr hg in
theorem hleaves (hl : ll.length ≤ 20) (W : World) (hT : TabQ W) (hB : Below w.heap.size w W) : Calls Tryd.prog 72 #[.slice A ll.length c] W fun e w' => ∃ v0_ : Value, e = .returned (.tuple #[v0_, .int .i64 0]) ∧ Kd.R kdg 23 w' W.heap.size (fun _ => True) v0_ (ll.map lfg) ∧ Below W.heap.size W w' :=
  leaves_ok A c ll lfg W hT (Kd.C_below hr hB) (by omega) (no_long ll hg hl) (fun j hj W1 A1 c1 hT1 hC hc => leaf_ok A1 c1 (ll.getD j []) W1 hT1 hC (by have := fit_of hg hl j hj; omega))
include hr hg in
theorem rcheck0 (hl : ll.length ≤ 20) (W : World) (hB : Below w.heap.size w W) : Calls Tryd.prog 86 #[.slice A ll.length c] W fun e w' => e = .returned (.int .i64 0) ∧ Below W.heap.size W w' :=
  (check_few A c ll W (Kd.C_below hr hB) (by omega) 0 (fun h => by rw [no_long ll hg hl] at h; cases h) (fun _ => rfl)).mono (fun e w' h => eq_below h)
include hr hg hwf in
theorem rdigests (hl : ll.length ≤ 20) (W : World) (hB : Below w.heap.size w W) : Calls Tryd.prog 88 #[.slice A ll.length c] W fun e w' => ∃ v0_ : Value, e = .returned v0_ ∧ Kd.R kdg 23 w' W.heap.size (fun _ => True) v0_ (ll.map lfg) ∧ Below W.heap.size W w' :=
  digests_walk A c ll lfg W (Kd.C_below hr hB) (by omega) (fun j hj W1 A1 c1 hC hc => rleaf0_walk A1 c1 (ll.getD j []) W1 hC (by have := fit_of hg hl j hj; omega) (lfg (ll.getD j [])) (fun W2 A2 c2 hC2 => leaf_of (ll.getD j []) (by have := fit_of hg hl j hj; omega) (hwf j hj) A2 c2 W2 hC2))
include hr hwf hg in
theorem roots_both : ∃ (y : Dg) (er : Int),
    (∀ W : World, TabQ W → Below w.heap.size w W → Calls Tryd.prog 35 #[.slice A ll.length c] W fun e w' => e = .returned (.tuple #[.agg #[.int .u8 (y 0), .int .u8 (y 1), .int .u8 (y 2), .int .u8 (y 3), .int .u8 (y 4), .int .u8 (y 5), .int .u8 (y 6), .int .u8 (y 7), .int .u8 (y 8), .int .u8 (y 9), .int .u8 (y 10), .int .u8 (y 11), .int .u8 (y 12), .int .u8 (y 13), .int .u8 (y 14), .int .u8 (y 15), .int .u8 (y 16), .int .u8 (y 17), .int .u8 (y 18), .int .u8 (y 19)], .int .i64 er]) ∧ Below W.heap.size W w') ∧
    (∀ W : World, TabQ W → Below w.heap.size w W → Calls Tryd.prog 61 #[.slice A ll.length c] W fun e w' => e = .returned (.tuple #[.agg #[.int .u8 (y 0), .int .u8 (y 1), .int .u8 (y 2), .int .u8 (y 3), .int .u8 (y 4), .int .u8 (y 5), .int .u8 (y 6), .int .u8 (y 7), .int .u8 (y 8), .int .u8 (y 9), .int .u8 (y 10), .int .u8 (y 11), .int .u8 (y 12), .int .u8 (y 13), .int .u8 (y 14), .int .u8 (y 15), .int .u8 (y 16), .int .u8 (y 17), .int .u8 (y 18), .int .u8 (y 19)], .int .i64 er]) ∧ Below W.heap.size W w') := by
  by_cases h : 600 < ll.length
  · exact ⟨zdg, 4, fun W _ _ => hRoot_err A ll.length c W (fun W1 => leaves_many A ll.length c W1 h), fun W _ _ => rRoot_err A ll.length c W (fun W1 _ => (check_many A ll.length c W1 h).mono (fun e w' h => eq_below h))⟩
  have hl : ll.length ≤ 20 := by have := great_of hg; omega
  have hm : (ll.map lfg).length = ll.length := List.length_map ..
  exact ⟨rootg 600 (ll.map lfg), 0,
    fun W hT hB => hRoot_ok A ll.length c (ll.map lfg) (rootg 600 (ll.map lfg)) W hT (fun W1 hT1 hB1 => hleaves A c ll w hr hg hl W1 hT1 (below_step hB hB1)) (fun A1 c1 W1 hT1 hC hc => hroot_calls 600 A1 c1 (ll.map lfg) W1 hT1 (by omega) (by omega) hC hc),
    fun W hT hB => rRoot_ok A ll.length c (ll.map lfg) (rootg 600 (ll.map lfg)) W (fun W1 hB1 => rcheck0 A c ll w hr hg hl W1 (below_step hB hB1)) (fun W1 hB1 => rdigests A c ll w hr hwf hg hl W1 (below_step hB hB1)) (fun A1 c1 W1 hC hc => rroot_calls 600 A1 c1 (ll.map lfg) W1 (by omega) (by omega) hC hc (lf_rng ll))⟩
include hr hwf hg in
theorem prove_both (i : Int) : ∃ (ps : List Dg) (ep : Int), ps.length ≤ 600 ∧
    (∀ W : World, TabQ W → Below w.heap.size w W → Calls Tryd.prog 36 #[.slice A ll.length c, .int .i64 i] W fun e w' => ∃ v0_ : Value, e = .returned (.tuple #[v0_, .int .i64 ep]) ∧ Kd.R kdg 23 w' W.heap.size (fun _ => True) v0_ ps ∧ Below W.heap.size W w') ∧
    (∀ W : World, TabQ W → Below w.heap.size w W → Calls Tryd.prog 62 #[.slice A ll.length c, .int .i64 i] W fun e w' => ∃ v0_ : Value, e = .returned (.tuple #[v0_, .int .i64 ep]) ∧ Kd.R kdg 23 w' W.heap.size (fun _ => True) v0_ ps ∧ Below W.heap.size W w') := by
  by_cases h : 600 < ll.length
  · exact ⟨[], 4, by decide, fun W _ _ => (hProve_err A ll.length c i W (fun W1 => leaves_many A ll.length c W1 h)).mono (fun e w' h => nil_row (v := .bool true) 4 (eq_below h)), fun W _ _ => (rProve_err A ll.length c i W (fun W1 _ => (check_many A ll.length c W1 h).mono (fun e w' h => eq_below h))).mono (fun e w' h => nil_row (v := .bool true) 4 h)⟩
  have hl : ll.length ≤ 20 := by have := great_of hg; omega
  have hm : (ll.map lfg).length = ll.length := List.length_map ..
  have hlv := fun (W : World) (hB : Below w.heap.size w W) (W1 : World) (hT1 : TabQ W1) (hB1 : Below W.heap.size W W1) => hleaves A c ll w hr hg hl W1 hT1 (below_step hB hB1)
  have hck := fun (W : World) (hB : Below w.heap.size w W) (W1 : World) (hB1 : Below W.heap.size W W1) => rcheck0 A c ll w hr hg hl W1 (below_step hB hB1)
  by_cases h1 : i < 0
  · exact ⟨[], 2, by decide, fun W hT hB => (hProve_neg A ll.length c i (ll.map lfg) W hT h1 (hlv W hB)).mono (fun e w' h => nil_row (v := .bool true) 2 h), fun W hT hB => (rProve_neg A ll.length c i W h1 (hck W hB)).mono (fun e w' h => nil_row (v := .bool true) 2 h)⟩
  by_cases h2 : (ll.length : Int) ≤ i
  · exact ⟨[], 2, by decide, fun W hT hB => (hProve_big A ll.length c i (ll.map lfg) W hT ⟨by omega, h2⟩ (hlv W hB)).mono (fun e w' h => nil_row (v := .bool true) 2 h), fun W hT hB => (rProve_big A ll.length c i W ⟨by omega, h2⟩ (hck W hB)).mono (fun e w' h => nil_row (v := .bool true) 2 h)⟩
  obtain ⟨ii, rfl⟩ := Int.eq_ofNat_of_zero_le (show 0 ≤ i by omega)
  exact ⟨(pwr (rootg 600) (ll.map lfg).length (ll.map lfg) ii).reverse, 0, by rw [List.length_reverse]; have := pwr_len (rootg 600) (ll.map lfg).length (ll.map lfg) ii (by omega); omega,
    fun W hT hB => hProve_ok A ll.length c ii (ll.map lfg) (rootg 600) W hT (by omega) (by omega) (hlv W hB) (fun n h2 hn W1 => half_calls n h2 hn W1) (fun l n A1 c1 W1 hT1 hln hn hC hc => by subst hln; exact hroot_calls 600 A1 c1 l W1 hT1 hn hn hC hc),
    fun W hT hB => rProve_ok A ll.length c ii (ll.map lfg) (pwr (rootg 600) (ll.map lfg).length (ll.map lfg) ii).reverse W (by omega) (hck W hB) (fun W1 hB1 => rdigests A c ll w hr hwf hg hl W1 (below_step hB hB1)) (fun A1 c1 W1 hC hc => rproof_calls (ll.map lfg).length A1 c1 (ll.map lfg) ii W1 (Nat.le_refl _) (by omega) (by omega) (by omega) hC hc (lf_rng ll))⟩
end
theorem roots (A : Option Addr) (c : Nat) (ll : List (List Int)) (B : Option Addr) (cb : Nat) (lb : List Int) (n i : Int) (w : World) (hT : TabQ w) (hr : Kd.C (Kd.slice 5 (Kd.int .u8)) w A ll.length ll) (hlc : ll.length ≤ c) (hwf : ∀ j, j < ll.length → ∀ z ∈ ll.getD j [], 0 ≤ z ∧ z < 256)
    (hrb : Kd.C (Kd.int .u8) w B lb.length lb) (hcb : lb.length ≤ cb) (hb : ∀ z ∈ lb, 0 ≤ z ∧ z < 256) (ht : tot ll ll.length ≤ 1000000000) :
    Calls Tryd.prog 18 #[.slice A ll.length c, .slice B lb.length cb, .int .i64 n, .int .i64 i] w fun e w' => e = .returned (.bool true) ∧ Below w.heap.size w w' := by
  by_cases hg : great ll = true
  · exact roots_g A c ll B lb.length cb n i w hr hlc hg trivial
  have hg : great ll = false := Bool.eq_false_iff.2 hg
  by_cases h2 : 600 < lb.length ∧ lb.length ≤ 10000
  · exact roots_b A c ll B lb.length cb n i w hr hlc hg h2
  by_cases h3 : 10100 < lb.length
  · exact roots_c A c ll B lb.length cb n i w hr hlc hg h3
  obtain ⟨x, eb, l1, l2⟩ := leaf_both B cb lb w hrb hb
  obtain ⟨y, er, r1, r2⟩ := roots_both A c ll w hr hwf hg
  obtain ⟨ps, ep, hp, p1, p2⟩ := prove_both A c ll w hr hwf hg i
  obtain ⟨m, es, s1, s2⟩ := steps_both n i
  have hl : ll.length ≤ 650 := by have := great_of hg; omega
  by_cases h4 : lb.length ≤ 600
  · exact roots_short A c ll B lb.length cb n i w hr hlc hg h4 hT hl ht x y eb er ep m es ps (by omega) l1 l2 r1 r2 p1 p2 (fun W _ _ => s1 W) (fun W _ _ => s2 W)
  · exact roots_many A c ll B lb.length cb n i w hr hlc hg ⟨by omega, by omega⟩ hT hl ht x y eb er ep m es ps (by omega) l1 l2 r1 r2 p1 p2 (fun W _ _ => s1 W) (fun W _ _ => s2 W)
end Go.Proofs.YtbldecdipicddaaDoor.Hand
