/- Both roots of a list of digests are rootg. Written by wip/s1/mkroot.py. -/
import Derived.Test.YtbldecdipicddaaDoorHRoot
import Derived.Test.YtbldecdipicddaaDoorTreeMath
set_option linter.unusedSimpArgs false
set_option linter.unusedVariables false
namespace Go.Proofs.YtbldecdipicddaaDoor.Hand
open Go Go.RowKit Go.Proofs.YtbldecdipicddaaDoorW.PrintWords Go.Proofs.YtbldecdipicddaaDoor.QZ
/-- The root of a list of digests (k: at least its length). -/
def rootg : Nat → List Dg → Dg
  | 0, _ => zdg
  | k + 1, l => if l.length = 0 then zdg else if l.length = 1 then l.getD 0 zdg else ndg (rootg k (l.take (hf l.length))) (rootg k (l.drop (hf l.length)))
theorem zdg_rng : dgr zdg := fun i _ => ⟨Int.le_refl 0, show (0 : Int) < 256 by decide⟩
theorem rootg_rng : ∀ (k : Nat) (l : List Dg), (∀ j, j < l.length → dgr (l.getD j zdg)) → dgr (rootg k l)
  | 0, _, _ => zdg_rng
  | k + 1, l, h => by
    rw [rootg]
    by_cases h0 : l.length = 0
    · rw [if_pos h0]
      exact zdg_rng
    · rw [if_neg h0]
      by_cases h1 : l.length = 1
      · rw [if_pos h1]
        exact h 0 (by omega)
      · rw [if_neg h1]
        exact ndg_rng _ _
theorem half_calls (n : Nat) (h2 : 2 ≤ n) (hn : n ≤ 600) (W : World) : Calls Tryd.prog 74 #[.int .i64 (n : Int)] W fun e w' => e = .returned (.int .i64 (hf n : Int)) ∧ Below W.heap.size W w' :=
  (tree_half.calls 5 (n : Int) (hf n : Int) W (half_at 5 n (by omega) h2 hn)).mono (fun e w' h => (⟨h.1, by obtain ⟨m, hm⟩ := h.2; rw [hm]; exact pw_below_drewN (Below.refl _ _) m⟩ : e = .returned (.int .i64 (hf n : Int)) ∧ Below W.heap.size W w'))
theorem rhalf_calls (n : Nat) (h2 : 2 ≤ n) (hn : n ≤ 600) (W : World) : Calls Tryd.prog 64 #[.int .i64 (n : Int)] W fun e w' => e = .returned (.int .i64 (hf n : Int)) ∧ Below W.heap.size W w' :=
  (bitloftref41_Half.calls 12 (n : Int) (hf n : Int) W (Half_at 12 n (by omega) h2 hn)).mono (fun e w' h => (⟨h.1, by obtain ⟨m, hm⟩ := h.2; rw [hm]; exact pw_below_drewN (Below.refl _ _) m⟩ : e = .returned (.int .i64 (hf n : Int)) ∧ Below W.heap.size W w'))
theorem hroot_calls : ∀ (f : Nat) (A : Option Addr) (c : Nat) (l : List Dg) (w : World), TabQ w → l.length ≤ f → l.length ≤ 600 → Kd.C kdg w A l.length l → l.length ≤ c → Calls Tryd.prog 73 #[.slice A l.length c] w fun e w' => e = .returned (.tuple #[.agg #[.int .u8 (rootg f l 0), .int .u8 (rootg f l 1), .int .u8 (rootg f l 2), .int .u8 (rootg f l 3), .int .u8 (rootg f l 4), .int .u8 (rootg f l 5), .int .u8 (rootg f l 6), .int .u8 (rootg f l 7), .int .u8 (rootg f l 8), .int .u8 (rootg f l 9), .int .u8 (rootg f l 10), .int .u8 (rootg f l 11), .int .u8 (rootg f l 12), .int .u8 (rootg f l 13), .int .u8 (rootg f l 14), .int .u8 (rootg f l 15), .int .u8 (rootg f l 16), .int .u8 (rootg f l 17), .int .u8 (rootg f l 18), .int .u8 (rootg f l 19)], .int .i64 0]) ∧ Below w.heap.size w w'
  | 0, A, c, l, w, hT, hf0, hl, hr, hc => by
    rw [show l.length = 0 by omega]
    exact hroot_zero A c w
  | f + 1, A, c, l, w, hT, hf0, hl, hr, hc => by
    by_cases h0 : l.length = 0
    · have e : rootg (f + 1) l = zdg := by rw [rootg, if_pos h0]
      rw [e, h0]
      exact hroot_zero A c w
    by_cases h1 : l.length = 1
    · have e : rootg (f + 1) l = l.getD 0 zdg := by rw [rootg, if_neg h0, if_pos h1]
      obtain ⟨ad, rfl, _⟩ := hr.2.2 (by omega)
      have hld := fun (W : World) (hB : Below w.heap.size w W) => dg_load (i := 0) (Kd.C_below hr hB) (by omega)
      rw [e, h1]
      exact hroot_one ad c (l.getD 0 zdg) w (fun W hB => by have := hld W hB; rwa [Nat.zero_mul, Addr.add_zero'] at this)
    · have h2 := hf_all l.length (by omega) (by omega)
      have e : rootg (f + 1) l = ndg (rootg f (l.take (hf l.length))) (rootg f (l.drop (hf l.length))) := by rw [rootg, if_neg h0, if_neg h1]
      have ht : (l.take (hf l.length)).length = hf l.length := by rw [List.length_take, Nat.min_eq_left (by omega)]
      have hd : (l.drop (hf l.length)).length = l.length - hf l.length := List.length_drop
      obtain ⟨A2, hcut, hC2⟩ := cut55b A l.length c (hf l.length) (by omega) hc
      rw [e]
      exact hroot_more l.length (hf l.length) c A A2 (rootg f (l.take (hf l.length))) (rootg f (l.drop (hf l.length))) (ndg (rootg f (l.take (hf l.length))) (rootg f (l.drop (hf l.length)))) w hT (by omega) (by omega) hc hcut (fun W => half_calls l.length (by omega) hl W)
        (fun W hT hB => by
          have := hroot_calls f A c (l.take (hf l.length)) W hT (by omega) (by omega) (Kd.C_take (Kd.C_below hr hB) (by omega)) (by omega)
          rw [ht] at this
          exact this)
        (fun W hT hB => by
          have := hroot_calls f A2 (c - hf l.length) (l.drop (hf l.length)) W hT (by omega) (by omega) (by rw [hd]; exact hC2 W l rfl (Kd.C_below hr hB)) (by omega)
          rw [hd] at this
          exact this)
        (fun W hT => node_calls _ _ W hT)
end Go.Proofs.YtbldecdipicddaaDoor.Hand
