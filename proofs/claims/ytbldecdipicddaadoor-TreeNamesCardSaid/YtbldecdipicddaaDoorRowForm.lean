/- Small words for walks by hand: rows, blocks, cuts. -/
import Derived.Test.YtbldecdipicddaaDoorHSum
set_option linter.unusedSimpArgs false
set_option linter.unusedVariables false
namespace Go.Proofs.YtbldecdipicddaaDoor.Hand
open Go Go.RowKit Go.Proofs.YtbldecdipicddaaDoorW.PrintWords Go.Proofs.YtbldecdipicddaaDoorW.PrintLast
theorem new_blk (W : World) (cs : Array Value) (t : Nat) : ∃ (g : Nat) (w1 : World), g = W.heap.size ∧ w1 = World.alloc W (.cells cs t (0, 0)) ∧ w1.heap[g]? = some (.cells cs t (0, 0)) ∧ Below W.heap.size W w1 :=
  ⟨_, _, rfl, rfl, blk_new W _, below_alloc (Below.refl _ _) _⟩
/-- A row cut in two. -/
theorem cuts2 (A : Option Addr) (n c k : Nat) (hk : k ≤ n) (hc : n ≤ c) : ∃ A2 : Option Addr, (∀ W : World, (Instr.slice 26 (.slice A n c) none (some (.int .i64 (k : Int))) none).run Tryd.prog W = .ok (.slice A k c) W) ∧ (∀ W : World, (Instr.slice 26 (.slice A n c) (some (.int .i64 (k : Int))) none none).run Tryd.prog W = .ok (.slice A2 (n - k) (c - k)) W) ∧
    ∀ (W : World) (all : List Int), all.length = n → Kd.C (Kd.int .u8) W A n all → Kd.C (Kd.int .u8) W A k (all.take k) ∧ Kd.C (Kd.int .u8) W A2 (n - k) (all.drop k) := by
  obtain ⟨i0, hi0, _, hsz, _⟩ := info_parts info5p
  refine ⟨_, fun W => ?_, fun W => cut_from (P := Tryd.prog) 26 5 .i64 Tryd.underlying26 hi0 1 hsz A n c (k : Int) (by omega) (by omega) W, fun W all hl h => ?_⟩
  · have := cut_to (P := Tryd.prog) 26 5 .i64 Tryd.underlying26 hi0 A n c (k : Int) (by omega) (by omega) hc W
    rw [Int.toNat_natCast] at this
    exact this
  · subst hl
    have h1 := Kd.C_take (m := k) h hk
    have h2 := Kd.C_drop (m := k) (c := c) h hk hc
    rw [List.length_take, Nat.min_eq_left hk] at h1
    rw [List.length_drop] at h2
    exact ⟨h1, h2⟩
theorem rows2n {w : World} {g t c c' n n' : Nat} {A A' : Option Addr} {l p : List Int} (e1 : l.length = n) (e2 : p.length = n') (hb : w.heap[g]? = some (.cells #[.slice A n c, .slice A' n' c'] t (0, 0))) (h1 : Kd.C (Kd.int .u8) w A n l) (q1 : n ≤ c) (h2 : Kd.C (Kd.int .u8) w A' n' p) (q2 : n' ≤ c') : Kd.C (Kd.slice 5 (Kd.int .u8)) w (some ⟨g, 0, none⟩) 2 [l, p] := by
  subst e1 e2
  exact rows2 hb h1 q1 h2 q2
theorem rows_cut {w : World} {g t c k : Nat} {A A2 : Option Addr} {all : List Int} (hk : k ≤ all.length) (hc : all.length ≤ c) (hb : w.heap[g]? = some (.cells #[.slice A k c, .slice A2 (all.length - k) (c - k)] t (0, 0))) (h1 : Kd.C (Kd.int .u8) w A k (all.take k)) (h2 : Kd.C (Kd.int .u8) w A2 (all.length - k) (all.drop k)) :
    Kd.C (Kd.slice 5 (Kd.int .u8)) w (some ⟨g, 0, none⟩) 2 [all.take k, all.drop k] :=
  rows2n (by rw [List.length_take, Nat.min_eq_left hk]) List.length_drop hb h1 (by omega) h2 (by omega)
theorem row_formK {α : Type} {d : Kd α} {e : Nat} {w' : World} {v : Value} {xs : List α} {b n : Nat} {ok : Nat → Prop} (h : Kd.R d e w' b ok v xs) (hn : xs.length = n) (h0 : 0 < n) : ∃ g cap, v = .slice (some ⟨g, 0, none⟩) n cap ∧ n ≤ cap ∧ Kd.C d w' (some ⟨g, 0, none⟩) n xs := by
  subst hn
  obtain ⟨g, cap, rfl, _⟩ := Kd.R_form h h0
  obtain ⟨_, h2, h3⟩ := Kd.R_reads' h
  exact ⟨g, cap, rfl, h2, h3⟩
theorem row_at {k : IntKind} {W : World} {g n m i : Nat} {xs : List Int} {b : Int} (h : Kd.C (Kd.int k) W (some ⟨g, 0, none⟩) n xs) (hl : xs.length = m) (hi : i < m) (hb : xs.getD i 0 = b) : W.cell? ⟨g, i, none⟩ = some (.int k b) := by
  have := C_getb h hl i hi hb
  rwa [show (⟨g, 0, none⟩ : Addr).add i = ⟨g, i, none⟩ from by by_cases h : i = 0 <;> simp [Addr.add, h]] at this
end Go.Proofs.YtbldecdipicddaaDoor.Hand
