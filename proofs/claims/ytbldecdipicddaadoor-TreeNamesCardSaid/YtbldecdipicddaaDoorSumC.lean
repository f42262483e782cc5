/- sha.Sum's digest. Laid by wip/s1/mkbase.py. -/
import Derived.Test.YtbldecdipicddaaDoorHSum
import Derived.Test.YtbldecdipicddaaDoorPadMath
set_option linter.unusedSimpArgs false
set_option linter.unusedVariables false
namespace Go.Proofs.YtbldecdipicddaaDoor.Hand
open Go Go.RowKit Go.Proofs.YtbldecdipicddaaDoorW.PrintWords Go.Proofs.YtbldecdipicddaaDoor.QP
theorem pv_range (n s : Int) : 0 ≤ pv n s ∧ pv n s < 256 := by unfold pv; omega
theorem padl_range (n : Int) : ∀ z ∈ padl n, 0 ≤ z ∧ z < 256 := by
  intro z hz
  simp only [padl, padt, List.mem_append, List.mem_singleton, List.mem_replicate, List.mem_cons, List.not_mem_nil, or_false] at hz
  rcases hz with (rfl | ⟨_, rfl⟩) | hz
  · decide
  · decide
  · rcases hz with rfl | rfl | rfl | rfl | rfl | rfl | rfl | rfl <;> exact pv_range _ _
theorem padl_length (n : Nat) (hn : n ≤ 20000) : ∃ M, 0 < M ∧ M < 10000 ∧ n + (padl (n : Int)).length = 64 * M := by
  have : (padl (n : Int)).length = 1 + ((119 - (n : Int) % 64) % 64).toNat + 8 := by simp only [padl, List.length_append, List.length_singleton, List.length_replicate, padt_length]
  exact ⟨(n + (padl (n : Int)).length) / 64, by omega, by omega, by omega⟩
/-- The words behind all blocks. -/
def fin5 (l : List Int) : W5 := fold64 doW ((l ++ padl (l.length : Int)).length / 64) first5 (l ++ padl (l.length : Int))
theorem tot2 (l p : List Int) : tot [l, p] 2 = l.length + p.length := by simp [tot]
theorem cat2 (l p : List Int) : cat [l, p] 2 = l ++ p := by simp [cat]
theorem sum_c (A : Option Addr) (c : Nat) (l : List Int) (w : World) (hT : TabQ w) (hr : Kd.C (Kd.int .u8) w A l.length l) (hc : l.length ≤ c) (hlen : l.length ≤ 20000) :
    Calls Tryd.prog 44 #[.slice A l.length c] w fun e w' => e = .returned (.tuple #[.agg ((dig (fin5 l)).map (Value.int .u8)).toArray, .int .i64 0]) ∧ Below w.heap.size w w' := by
  obtain ⟨M, h0, h1, h2⟩ := padl_length l.length hlen
  have hM : (l ++ padl (l.length : Int)).length = 64 * M := by rw [List.length_append]; exact h2
  have := sum_ok A c l (padl (l.length : Int)) (l ++ padl (l.length : Int)) M w hT hr hc hlen hM h0 h1 (fun W => sha_pad.calls 9 (l.length : Int) (padl (l.length : Int)) W (pad_eq _ (by omega) (by omega)))
    (fun W a k hC => by
      have hc := concat_calls (some a) k [l, padl (l.length : Int)] W hC (by show tot [l, padl (l.length : Int)] 2 ≤ _; rw [tot2]; omega) (fun W n hn => grow_calls W n hn)
      rw [show cat [l, padl (l.length : Int)] [l, padl (l.length : Int)].length = l ++ padl (l.length : Int) from cat2 _ _] at hc
      exact hc)
  unfold fin5
  rw [hM, show 64 * M / 64 = M by omega]
  exact this
end Go.Proofs.YtbldecdipicddaaDoor.Hand
