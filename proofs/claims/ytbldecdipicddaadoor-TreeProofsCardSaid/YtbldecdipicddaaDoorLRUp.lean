/- The reference's up, for every way. -/
import Derived.Test.YtbldecdipicddaaDoorHRUp
set_option linter.unusedSimpArgs false
set_option linter.unusedVariables false
namespace Go.Proofs.YtbldecdipicddaaDoor.Hand
open Go Go.RowKit Go.Proofs.YtbldecdipicddaaDoorW.PrintWords Go.Proofs.YtbldecdipicddaaDoor.QZ
def rupf : List Bool → List Dg → Dg → Dg
  | [], _, d => d
  | b :: s, l, d => if b then ndg (l.getD s.length zdg) (rupf s (l.take s.length) d) else ndg (rupf s (l.take s.length) d) (l.getD s.length zdg)
theorem rupf_rng : ∀ (s : List Bool) (l : List Dg) (d : Dg), dgr d → dgr (rupf s l d)
  | [], _, d, h => h
  | true :: s, l, d, h => ndg_rng _ _
  | false :: s, l, d, h => ndg_rng _ _
theorem rhalf_calls (n : Nat) (h2 : 2 ≤ n) (hn : n ≤ 600) (W : World) : Calls Tryd.prog 64 #[.int .i64 (n : Int)] W fun e w' => e = .returned (.int .i64 (hf n : Int)) ∧ Below W.heap.size W w' :=
  (bitloftref41_Half.calls 12 (n : Int) (hf n : Int) W (Half_at 12 n (by omega) h2 hn)).mono (fun e w' h => (⟨h.1, by obtain ⟨m, hm⟩ := h.2; rw [hm]; exact pw_below_drewN (Below.refl _ _) m⟩ : e = .returned (.int .i64 (hf n : Int)) ∧ Below W.heap.size W w'))
theorem rup_calls : ∀ (s : List Bool) (n i : Nat) (A : Option Addr) (c : Nat) (l : List Dg) (d : Dg) (w : World), Sd s n i → n ≤ 600 → s.length < 1000 → l.length = s.length → Kd.C kdg w A l.length l → l.length ≤ c → dgr d → (∀ j, j < l.length → dgr (l.getD j zdg)) →
    Calls Tryd.prog 84 #[.int .i64 (n : Int), .int .i64 (i : Int), .agg #[.int .u8 (d 0), .int .u8 (d 1), .int .u8 (d 2), .int .u8 (d 3), .int .u8 (d 4), .int .u8 (d 5), .int .u8 (d 6), .int .u8 (d 7), .int .u8 (d 8), .int .u8 (d 9), .int .u8 (d 10), .int .u8 (d 11), .int .u8 (d 12), .int .u8 (d 13), .int .u8 (d 14), .int .u8 (d 15), .int .u8 (d 16), .int .u8 (d 17), .int .u8 (d 18), .int .u8 (d 19)], .slice A l.length c] w fun e w' => e = .returned (.agg #[.int .u8 (rupf s l d 0), .int .u8 (rupf s l d 1), .int .u8 (rupf s l d 2), .int .u8 (rupf s l d 3), .int .u8 (rupf s l d 4), .int .u8 (rupf s l d 5), .int .u8 (rupf s l d 6), .int .u8 (rupf s l d 7), .int .u8 (rupf s l d 8), .int .u8 (rupf s l d 9), .int .u8 (rupf s l d 10), .int .u8 (rupf s l d 11), .int .u8 (rupf s l d 12), .int .u8 (rupf s l d 13), .int .u8 (rupf s l d 14), .int .u8 (rupf s l d 15), .int .u8 (rupf s l d 16), .int .u8 (rupf s l d 17), .int .u8 (rupf s l d 18), .int .u8 (rupf s l d 19)]) ∧ Below w.heap.size w w'
  | [], n, i, A, c, l, d, w, hs, hn, hl, he, hr, hc, hd, hj => by
    obtain ⟨rfl, rfl⟩ := hs
    exact rup_one _ A l.length c d w
  | b :: s, n, i, A, c, l, d, w, hs, hn, hl, he, hr, hc, hd, hj => by
    obtain ⟨h2, hi, hb, hs⟩ := hs
    have hf2 := hf_all n (by omega) h2
    rw [List.length_cons] at hl he
    obtain ⟨ad, rfl, _⟩ := hr.2.2 (by omega)
    have hm : s.length ≤ l.length := by omega
    have ht : (l.take s.length).length = s.length := by rw [List.length_take, Nat.min_eq_left hm]
    have hp : dgr (l.getD s.length zdg) := hj _ (by omega)
    have hx : dgr (rupf s (l.take s.length) d) := rupf_rng _ _ _ hd
    have htj : ∀ j, j < (l.take s.length).length → dgr ((l.take s.length).getD j zdg) := by
      intro j hj'
      rw [ht] at hj'
      have := hj j (by omega)
      rwa [List.getD_eq_getElem?_getD, List.getElem?_take, if_pos hj', ← List.getD_eq_getElem?_getD]
    have hld := fun (W : World) (hB : Below w.heap.size w W) => dg_load (i := s.length) (Kd.C_below hr hB) (by omega)
    cases b with
    | true =>
      have hb' : hf n ≤ i := of_decide_eq_true hb.symm
      exact rup_right n i (hf n) l.length s.length c ad d (l.getD s.length zdg) (rupf s (l.take s.length) d) (ndg (l.getD s.length zdg) (rupf s (l.take s.length) d)) w ⟨h2, hn, hi, hf2.2⟩ hb' ⟨he, by omega⟩ hc (fun W => rhalf_calls n h2 hn W) hld (fun W hB => by
        have := rup_calls s (n - hf n) (i - hf n) (some ad) c (l.take s.length) d W hs (by omega) (by omega) ht (Kd.C_take (Kd.C_below hr hB) hm) (by rw [ht]; omega) hd htj
        rw [ht] at this
        rw [show wrap64 ((n : Int) - (hf n : Int)) = ((n - hf n : Nat) : Int) by unfold wrap64; omega, show wrap64 ((i : Int) - (hf n : Int)) = ((i - hf n : Nat) : Int) by unfold wrap64; omega]
        exact this) (fun W => rnode_calls _ _ hp hx W)
    | false =>
      have hb' : ¬ hf n ≤ i := of_decide_eq_false hb.symm
      exact rup_left n i (hf n) l.length s.length c ad d (l.getD s.length zdg) (rupf s (l.take s.length) d) (ndg (rupf s (l.take s.length) d) (l.getD s.length zdg)) w ⟨h2, hn, hi, hf2.2⟩ (by omega) ⟨he, by omega⟩ hc (fun W => rhalf_calls n h2 hn W) hld (fun W hB => by
        have := rup_calls s (hf n) i (some ad) c (l.take s.length) d W hs (by omega) (by omega) ht (Kd.C_take (Kd.C_below hr hB) hm) (by rw [ht]; omega) hd htj
        rw [ht] at this
        exact this) (fun W => rnode_calls _ _ hx hp W)
end Go.Proofs.YtbldecdipicddaaDoor.Hand
