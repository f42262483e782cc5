/- TreeProofs answers true. Written by wip/s1/mkproofs.py. -/
import Derived.Test.YtbldecdipicddaaDoorHProofs
import Derived.Test.YtbldecdipicddaaDoorHUp
import Derived.Test.YtbldecdipicddaaDoorLRUp
set_option linter.unusedSimpArgs false
set_option linter.unusedVariables false
namespace Go.Proofs.YtbldecdipicddaaDoor.Hand
open Go Go.RowKit Go.Proofs.YtbldecdipicddaaDoorW.PrintWords Go.Proofs.YtbldecdipicddaaDoor.QZ
theorem upk_congr (nd : Dg → Dg → Dg) (d : Dg) {bs bs' : Nat → Bool} {ps ps' : Nat → Dg} : ∀ m, (∀ k, k < m → bs k = bs' k ∧ ps k = ps' k) → upk nd bs ps d m = upk nd bs' ps' d m
  | 0, _ => rfl
  | m + 1, h => by
    rw [upk, upk, upk_congr nd d m (fun k hk => h k (by omega)), (h m (by omega)).1, (h m (by omega)).2]
theorem rupf_upk : ∀ (s : List Bool) (l : List Dg) (d : Dg), l.length = s.length → rupf s l d = upk ndg (fun k => s.getD (s.length - 1 - k) false) (fun k => l.getD k zdg) d s.length
  | [], _, d, _ => rfl
  | b :: s, l, d, h => by
    rw [List.length_cons] at h
    have ih := rupf_upk s (l.take s.length) d (by rw [List.length_take, Nat.min_eq_left (by omega)])
    have e : upk ndg (fun k => s.getD (s.length - 1 - k) false) (fun k => (l.take s.length).getD k zdg) d s.length = upk ndg (fun k => (b :: s).getD ((b :: s).length - 1 - k) false) (fun k => l.getD k zdg) d s.length := by
      refine upk_congr ndg d s.length (fun k hk => ⟨?_, ?_⟩)
      · show s.getD (s.length - 1 - k) false = (b :: s).getD ((b :: s).length - 1 - k) false
        rw [List.length_cons, show s.length + 1 - 1 - k = (s.length - 1 - k) + 1 by omega, List.getD_cons_succ]
      · show (l.take s.length).getD k zdg = l.getD k zdg
        rw [List.getD_eq_getElem?_getD, List.getElem?_take, if_pos hk, ← List.getD_eq_getElem?_getD]
    rw [rupf, ih, e, List.length_cons, upk]
    show (if b = true then _ else _) = (if (b :: s).getD ((b :: s).length - 1 - s.length) false = true then _ else _)
    rw [List.length_cons, show s.length + 1 - 1 - s.length = 0 by omega]
    rfl
theorem below_drewn {e : Ending} {w w' : World} {v : Value} (h : e = .returned v ∧ Drawn0 w w') : e = .returned v ∧ Below w.heap.size w w' := ⟨h.1, by obtain ⟨m, hm⟩ := h.2; rw [hm]; exact pw_below_drewN (Below.refl _ _) m⟩
/-- What both Ups answer. -/
theorem up_both (n i : Int) (A : Option Addr) (c : Nat) (l : List Dg) (w : World) (hr : Kd.C kdg w A l.length l) (hc : l.length ≤ c) (hl : l.length ≤ 30) (hg : ∀ j, j < l.length → dgr (l.getD j zdg)) (d : Dg) (hd : dgr d) : ∃ (x : Dg) (eu : Int), (eu = 0 ∨ (eu ≠ 0 ∧ x = zdg)) ∧
    (∀ W : World, TabQ W → Below w.heap.size w W → Calls Tryd.prog 40 #[.int .i64 n, .int .i64 i, .agg #[.int .u8 (d 0), .int .u8 (d 1), .int .u8 (d 2), .int .u8 (d 3), .int .u8 (d 4), .int .u8 (d 5), .int .u8 (d 6), .int .u8 (d 7), .int .u8 (d 8), .int .u8 (d 9), .int .u8 (d 10), .int .u8 (d 11), .int .u8 (d 12), .int .u8 (d 13), .int .u8 (d 14), .int .u8 (d 15), .int .u8 (d 16), .int .u8 (d 17), .int .u8 (d 18), .int .u8 (d 19)], .slice A l.length c] W fun e w' => e = .returned (.tuple #[.agg #[.int .u8 (x 0), .int .u8 (x 1), .int .u8 (x 2), .int .u8 (x 3), .int .u8 (x 4), .int .u8 (x 5), .int .u8 (x 6), .int .u8 (x 7), .int .u8 (x 8), .int .u8 (x 9), .int .u8 (x 10), .int .u8 (x 11), .int .u8 (x 12), .int .u8 (x 13), .int .u8 (x 14), .int .u8 (x 15), .int .u8 (x 16), .int .u8 (x 17), .int .u8 (x 18), .int .u8 (x 19)], .int .i64 eu]) ∧ Below W.heap.size W w') ∧
    (∀ W : World, TabQ W → Below w.heap.size w W → Calls Tryd.prog 57 #[.int .i64 n, .int .i64 i, .agg #[.int .u8 (d 0), .int .u8 (d 1), .int .u8 (d 2), .int .u8 (d 3), .int .u8 (d 4), .int .u8 (d 5), .int .u8 (d 6), .int .u8 (d 7), .int .u8 (d 8), .int .u8 (d 9), .int .u8 (d 10), .int .u8 (d 11), .int .u8 (d 12), .int .u8 (d 13), .int .u8 (d 14), .int .u8 (d 15), .int .u8 (d 16), .int .u8 (d 17), .int .u8 (d 18), .int .u8 (d 19)], .slice A l.length c] W fun e w' => e = .returned (.tuple #[.agg #[.int .u8 (x 0), .int .u8 (x 1), .int .u8 (x 2), .int .u8 (x 3), .int .u8 (x 4), .int .u8 (x 5), .int .u8 (x 6), .int .u8 (x 7), .int .u8 (x 8), .int .u8 (x 9), .int .u8 (x 10), .int .u8 (x 11), .int .u8 (x 12), .int .u8 (x 13), .int .u8 (x 14), .int .u8 (x 15), .int .u8 (x 16), .int .u8 (x 17), .int .u8 (x 18), .int .u8 (x 19)], .int .i64 eu]) ∧ Below W.heap.size W w') := by
  by_cases hbad : n < 1 ∨ n > 600 ∨ i < 0 ∨ i ≥ n
  · have e1 : tree_Steps.f 1 n i = some (0, 2) := by
      unfold tree_Steps.f
      by_cases h1 : n < 1
      · rw [if_pos h1]
      rw [if_neg h1]
      by_cases h2 : n > 600
      · rw [if_pos h2]
      rw [if_neg h2]
      by_cases h3 : i < 0
      · rw [if_pos h3]
      rw [if_neg h3, if_pos (by omega)]
    have e2 : bitloftref41_Steps.f 1 n i = some (0, 2) := by
      unfold bitloftref41_Steps.f
      by_cases h1 : n < 1
      · rw [if_pos h1]
      rw [if_neg h1]
      by_cases h2 : n > 600
      · rw [if_pos h2]
      rw [if_neg h2]
      by_cases h3 : i < 0
      · rw [if_pos h3]
      rw [if_neg h3, if_pos (by omega)]
    exact ⟨zdg, 2, .inr ⟨by decide, rfl⟩, fun W hT hB => hUp_err n i A l.length c d W hT 0 2 (by decide) (fun W => tree_Steps.calls 1 n i 0 2 W e1), fun W hT hB => rUp_err n i A l.length c d W 0 2 (by decide) (fun W => (bitloftref41_Steps.calls 1 n i 0 2 W e2).mono (fun e w' h => below_drewn h))⟩
  obtain ⟨nn, rfl⟩ := Int.eq_ofNat_of_zero_le (show 0 ≤ n by omega)
  obtain ⟨ii, rfl⟩ := Int.eq_ofNat_of_zero_le (show 0 ≤ i by omega)
  obtain ⟨s, hs, hsl⟩ := Sd_ex nn ii (by omega) (by omega)
  have hsd : tree_sides.f (s.length + 6) (nn : Int) (ii : Int) = some s := by
    have := sides_eq s nn ii [] hs (by omega) (by simp; omega)
    rwa [List.nil_append] at this
  have hst : tree_Steps.f (s.length + 6) (nn : Int) (ii : Int) = some ((s.length : Int), 0) := by
    unfold tree_Steps.f
    rw [if_neg (by omega), if_neg (by omega), if_neg (by omega), if_neg (by omega), hsd]
    rfl
  have hrs : bitloftref41_steps.f (s.length + 13) (nn : Int) (ii : Int) = some (s.length : Int) := steps_eq s nn ii hs (by omega) (by omega)
  have hrst : bitloftref41_Steps.f (s.length + 13) (nn : Int) (ii : Int) = some ((s.length : Int), 0) := by
    unfold bitloftref41_Steps.f
    rw [if_neg (by omega), if_neg (by omega), if_neg (by omega), if_neg (by omega), hrs]
    rfl
  have cst := fun W : World => tree_Steps.calls (s.length + 6) (nn : Int) (ii : Int) (s.length : Int) 0 W hst
  have crs := fun W : World => (bitloftref41_steps.calls (s.length + 13) (nn : Int) (ii : Int) (s.length : Int) W hrs).mono (fun e w' h => below_drewn h)
  have crst := fun W : World => (bitloftref41_Steps.calls (s.length + 13) (nn : Int) (ii : Int) (s.length : Int) 0 W hrst).mono (fun e w' h => below_drewn h)
  by_cases he : l.length = s.length
  case neg =>
    exact ⟨zdg, 12, .inr ⟨by decide, rfl⟩, fun W hT hB => hUp_form _ _ A l.length c d W hT (s.length : Int) (by omega) cst, fun W hT hB => rUp_form _ _ A l.length c d W (s.length : Int) (by omega) crst crs⟩
  have hx := rupf_upk s l d he
  refine ⟨rupf s l d, 0, .inl rfl, fun W hT hB => ?_, fun W hT hB => ?_⟩
  · by_cases h0 : s.length = 0
    · obtain rfl := List.eq_nil_of_length_eq_zero h0
      have hl0 : l.length = 0 := he
      have := hUp_zero (nn : Int) (ii : Int) A c d W hT cst (fun W => tree_sides.calls 6 (nn : Int) (ii : Int) [] W hsd)
      rw [hl0]
      exact this
    · obtain ⟨ad, rfl, _⟩ := hr.2.2 (by omega)
      rw [hx, ← he]
      rw [← he] at cst
      exact hUp_ok (nn : Int) (ii : Int) ad l.length c d W hT s ndg (fun k => s.getD (l.length - 1 - k) false) (fun k => l.getD k zdg) cst (fun W => tree_sides.calls (s.length + 6) (nn : Int) (ii : Int) s W hsd) (fun a b W hT => node_calls a b W hT) (fun W' hB' k hk => dg_load (Kd.C_below (Kd.C_below hr hB) hB') hk) ⟨he.symm, fun k hk => rfl⟩ ⟨by omega, by omega⟩
  · rw [← he] at crst crs
    exact rUp_ok (nn : Int) (ii : Int) A l.length c d W (rupf s l d) crst crs (fun W' hB' => rup_calls s nn ii A c l d W' hs (by omega) (by omega) he (Kd.C_below (Kd.C_below hr hB) hB') hc hd hg)
theorem proofs (lr : List Int) (n i : Int) (ld : List Int) (B : Option Addr) (cb : Nat) (lb : List Int) (A : Option Addr) (c : Nat) (l : List Dg) (w : World) (hT : TabQ w) (hl0 : lr.length = 20) (hg0 : ∀ z ∈ lr, (Lit.int .u8 z).wf = true) (hl3 : ld.length = 20) (hg3 : ∀ z ∈ ld, (Lit.int .u8 z).wf = true)
    (hrb : Kd.C (Kd.int .u8) w B lb.length lb) (hcb : lb.length ≤ cb) (hb : ∀ z ∈ lb, 0 ≤ z ∧ z < 256) (hr : Kd.C kdg w A l.length l) (hc : l.length ≤ c) (hg : ∀ j, j < l.length → dgr (l.getD j zdg)) :
    Calls Tryd.prog 17 #[.agg (lr.map (Value.int .u8)).toArray, .int .i64 n, .int .i64 i, .agg (ld.map (Value.int .u8)).toArray, .slice B lb.length cb, .slice A l.length c] w fun e w' => e = .returned (.bool true) ∧ Below w.heap.size w w' := by
  obtain ⟨r, hr0⟩ : ∃ r : Dg, lr = dgl r := ⟨fun j => lr.getD j 0, by match lr, hl0 with | [a0, a1, a2, a3, a4, a5, a6, a7, a8, a9, a10, a11, a12, a13, a14, a15, a16, a17, a18, a19], _ => rfl⟩
  obtain ⟨d, hd0⟩ : ∃ d : Dg, ld = dgl d := ⟨fun j => ld.getD j 0, by match ld, hl3 with | [a0, a1, a2, a3, a4, a5, a6, a7, a8, a9, a10, a11, a12, a13, a14, a15, a16, a17, a18, a19], _ => rfl⟩
  have hd : dgr d := by
    intro j hj
    have := hg3 (d j) (by rw [hd0]; exact List.mem_of_getElem? (dgl_get d j hj))
    simp [Lit.wf] at this
    have h1 : IntKind.u8.min = 0 := by decide
    have h2 : IntKind.u8.max = 255 := by decide
    omega
  subst hr0 hd0
  show Calls Tryd.prog 17 #[.agg #[.int .u8 (r 0), .int .u8 (r 1), .int .u8 (r 2), .int .u8 (r 3), .int .u8 (r 4), .int .u8 (r 5), .int .u8 (r 6), .int .u8 (r 7), .int .u8 (r 8), .int .u8 (r 9), .int .u8 (r 10), .int .u8 (r 11), .int .u8 (r 12), .int .u8 (r 13), .int .u8 (r 14), .int .u8 (r 15), .int .u8 (r 16), .int .u8 (r 17), .int .u8 (r 18), .int .u8 (r 19)], .int .i64 n, .int .i64 i, .agg #[.int .u8 (d 0), .int .u8 (d 1), .int .u8 (d 2), .int .u8 (d 3), .int .u8 (d 4), .int .u8 (d 5), .int .u8 (d 6), .int .u8 (d 7), .int .u8 (d 8), .int .u8 (d 9), .int .u8 (d 10), .int .u8 (d 11), .int .u8 (d 12), .int .u8 (d 13), .int .u8 (d 14), .int .u8 (d 15), .int .u8 (d 16), .int .u8 (d 17), .int .u8 (d 18), .int .u8 (d 19)], .slice B lb.length cb, .slice A l.length c] w _
  by_cases h1 : 30 < l.length
  · exact proofs_a r n i d B lb.length cb A l.length c w hT h1
  by_cases h2 : 600 < lb.length ∧ lb.length ≤ 10000
  · exact proofs_b r n i d B lb.length cb A l.length c w hT ⟨h1, h2⟩
  by_cases h3 : 10100 < lb.length
  · exact proofs_c r n i d B lb.length cb A l.length c w hT ⟨h1, h3⟩
  obtain ⟨x, eu, _, hu1, hu2⟩ := up_both n i A c l w hr hc (by omega) hg d hd
  by_cases h4 : 10000 < lb.length
  · exact proofs_many r n i d B lb.length cb A l.length c w hT ⟨h1, h4, by omega⟩ x eu false 4 hu1 hu2
      (fun W hT hB => hVer_leaf r n i B lb.length cb A l.length c W hT 4 (by decide) (fun W hT hB => leafw_many B cb lb W h4))
      (fun W hT hB => rVer_leaf r n i B lb.length cb A l.length c W hT 4 (by decide) (fun W hT hB => rleafw_many B cb lb W h4))
  · obtain ⟨y, ey, hy, hy1, hy2⟩ := up_both n i A c l w hr hc (by omega) hg (lfg lb) (lfg_rng lb)
    have hlf := fun (w1 : World) (h1 : Below w.heap.size w w1) (W : World) (hT : TabQ W) (hB : Below w1.heap.size w1 W) => leaf_ok B cb lb W hT (Kd.C_below (Kd.C_below hrb h1) hB) h4
    have rlf := fun (w1 : World) (h1 : Below w.heap.size w w1) (W : World) (hT : TabQ W) (hB : Below w1.heap.size w1 W) => rleaf_ok B cb lb W (Kd.C_below (Kd.C_below hrb h1) hB) h4 hb
    rcases hy with rfl | ⟨hey, rfl⟩
    · obtain ⟨q, hq⟩ : ∃ q : Bool, ∀ (k : Nat) (W : World), (Op.equalIn (k + 2) 23 (.agg #[.int .u8 (y 0), .int .u8 (y 1), .int .u8 (y 2), .int .u8 (y 3), .int .u8 (y 4), .int .u8 (y 5), .int .u8 (y 6), .int .u8 (y 7), .int .u8 (y 8), .int .u8 (y 9), .int .u8 (y 10), .int .u8 (y 11), .int .u8 (y 12), .int .u8 (y 13), .int .u8 (y 14), .int .u8 (y 15), .int .u8 (y 16), .int .u8 (y 17), .int .u8 (y 18), .int .u8 (y 19)]) (.agg #[.int .u8 (r 0), .int .u8 (r 1), .int .u8 (r 2), .int .u8 (r 3), .int .u8 (r 4), .int .u8 (r 5), .int .u8 (r 6), .int .u8 (r 7), .int .u8 (r 8), .int .u8 (r 9), .int .u8 (r 10), .int .u8 (r 11), .int .u8 (r 12), .int .u8 (r 13), .int .u8 (r 14), .int .u8 (r 15), .int .u8 (r 16), .int .u8 (r 17), .int .u8 (r 18), .int .u8 (r 19)])).run Tryd.prog W = .ok q W := ⟨_, fun k W => eqA23 k W (y 0) (r 0) (y 1) (r 1) (y 2) (r 2) (y 3) (r 3) (y 4) (r 4) (y 5) (r 5) (y 6) (r 6) (y 7) (r 7) (y 8) (r 8) (y 9) (r 9) (y 10) (r 10) (y 11) (r 11) (y 12) (r 12) (y 13) (r 13) (y 14) (r 14) (y 15) (r 15) (y 16) (r 16) (y 17) (r 17) (y 18) (r 18) (y 19) (r 19)⟩
      exact proofs_short r n i d B lb.length cb A l.length c w hT ⟨h1, by omega⟩ x eu q 0 hu1 hu2
        (fun W hT hB => hVer_ok r n i B lb.length cb A l.length c W hT (lfg lb) y q (hlf W hB) (fun W' hT' hB' => hy1 W' hT' (below_step hB hB')) hq)
        (fun W hT hB => rVer_ok r n i B lb.length cb A l.length c W hT (lfg lb) y q (rlf W hB) (fun W' hT' hB' => hy2 W' hT' (below_step hB hB')) hq)
    · exact proofs_short r n i d B lb.length cb A l.length c w hT ⟨h1, by omega⟩ x eu false ey hu1 hu2
        (fun W hT hB => hVer_up r n i B lb.length cb A l.length c W hT (lfg lb) ey hey (hlf W hB) (fun W' hT' hB' => hy1 W' hT' (below_step hB hB')))
        (fun W hT hB => rVer_up r n i B lb.length cb A l.length c W hT (lfg lb) ey hey (rlf W hB) (fun W' hT' hB' => hy2 W' hT' (below_step hB hB')))
end Go.Proofs.YtbldecdipicddaaDoor.Hand
