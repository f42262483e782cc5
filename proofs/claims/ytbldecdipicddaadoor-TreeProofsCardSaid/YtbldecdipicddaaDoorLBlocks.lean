/- Paddings; ShaBlocks answers true, for every number, words and bytes. -/
import Derived.Test.YtbldecdipicddaaDoorShaMath
import Derived.Test.YtbldecdipicddaaDoorHBlock
import Derived.Test.YtbldecdipicddaaDoorPadMath
set_option linter.unusedSimpArgs false
set_option linter.unusedVariables false
namespace Go.Proofs.YtbldecdipicddaaDoor.Hand
open Go Go.RowKit Go.Proofs.YtbldecdipicddaaDoorW.PrintWords Go.Proofs.YtbldecdipicddaaDoor.QP
theorem rpad_step (k : Nat) (n : Int) (xs : List Int) (x : Int) (h0 : 0 ≤ n) (h1 : n ≤ 20000) (hl : xs.length < 1000) (hx : 0 ≤ x) (hx2 : x ≤ 100) : bitloftref01_Padding.l1 (k + 1) n xs x = bitloftref01_Padding.l1 k n (xs ++ [pv n (8 * x)]) (x - 1) := by
  have e : wrap64 (8 * x) = 8 * x := by unfold wrap64; omega
  rw [bitloftref01_Padding.l1, if_pos hx, e, if_pos (by omega), if_pos (by omega)]
  rw [show IntKind.u64.wrap (8 * IntKind.u64.wrap n) = n * 8 by rw [wrap_u64, wrap_u64]; omega, show wrap64 (x - 1) = x - 1 by unfold wrap64; omega]
  rfl
theorem rpad_tail (n : Int) (xs : List Int) (h0 : 0 ≤ n) (h1 : n ≤ 20000) (hl : xs.length < 900) : bitloftref01_Padding.l1 9 n xs 7 = some (xs ++ padt n) := by
  rw [rpad_step _ n _ _ h0 h1 (by omega) (by decide) (by decide)]
  rw [rpad_step _ n _ _ h0 h1 (by simp only [List.length_append, List.length_singleton]; omega) (by decide) (by decide)]
  rw [rpad_step _ n _ _ h0 h1 (by simp only [List.length_append, List.length_singleton]; omega) (by decide) (by decide)]
  rw [rpad_step _ n _ _ h0 h1 (by simp only [List.length_append, List.length_singleton]; omega) (by decide) (by decide)]
  rw [rpad_step _ n _ _ h0 h1 (by simp only [List.length_append, List.length_singleton]; omega) (by decide) (by decide)]
  rw [rpad_step _ n _ _ h0 h1 (by simp only [List.length_append, List.length_singleton]; omega) (by decide) (by decide)]
  rw [rpad_step _ n _ _ h0 h1 (by simp only [List.length_append, List.length_singleton]; omega) (by decide) (by decide)]
  rw [rpad_step _ n _ _ h0 h1 (by simp only [List.length_append, List.length_singleton]; omega) (by decide) (by decide)]
  rw [bitloftref01_Padding.l1, if_neg (by decide)]
  simp only [List.append_assoc, List.cons_append, List.nil_append]
  rfl
theorem rpad_zeros (n : Int) (h0 : 0 ≤ n) (h1 : n ≤ 20000) : ∀ (m : Nat) (xs : List Int), m < 64 → xs.length + m < 500 → (n + (xs.length : Int) + 8 + (m : Int)) % 64 = 0 → bitloftref01_Padding.l0 (m + 10) n xs = some (xs ++ List.replicate m 0 ++ padt n)
  | 0, xs, _, hl, h => by
    have e1 : wrap64 (n + (xs.length : Int)) = n + (xs.length : Int) := by unfold wrap64; omega
    have e2 : wrap64 (n + (xs.length : Int) + 8) = n + (xs.length : Int) + 8 := by unfold wrap64; omega
    have e3 : Int.tmod (n + (xs.length : Int) + 8) 64 = (n + (xs.length : Int) + 8) % 64 := Int.tmod_eq_emod_of_nonneg (by omega)
    rw [Nat.zero_add, bitloftref01_Padding.l0, e1, e2, e3, if_pos (by omega), rpad_tail n xs h0 h1 (by omega)]
    simp
  | m + 1, xs, hm, hl, h => by
    have e1 : wrap64 (n + (xs.length : Int)) = n + (xs.length : Int) := by unfold wrap64; omega
    have e2 : wrap64 (n + (xs.length : Int) + 8) = n + (xs.length : Int) + 8 := by unfold wrap64; omega
    have e3 : Int.tmod (n + (xs.length : Int) + 8) 64 = (n + (xs.length : Int) + 8) % 64 := Int.tmod_eq_emod_of_nonneg (by omega)
    rw [show m + 1 + 10 = (m + 10) + 1 by omega, bitloftref01_Padding.l0, e1, e2, e3, if_neg (by omega), if_pos (by omega), rpad_zeros n h0 h1 m (xs ++ [0]) (by omega) (by simp only [List.length_append, List.length_singleton]; omega) (by simp only [List.length_append, List.length_singleton]; omega), List.replicate_succ]
    simp
theorem rpad_eq (n : Int) (h0 : 0 ≤ n) (h1 : n ≤ 20000) : bitloftref01_Padding.f (((119 - n % 64) % 64).toNat + 10) n = some (padl n) := by
  unfold bitloftref01_Padding.f
  exact rpad_zeros n h0 h1 _ [128] (by omega) (by simp only [List.length_singleton]; omega) (by simp only [List.length_singleton]; omega)
theorem pad_both (n : Int) : ∃ k1 k2 xa en, sha_Pad.f k1 n = some (xa, en) ∧ bitloftref01_Pad.f k2 n = some (xa, en) ∧ xa.length ≤ 200 := by
  by_cases h0 : n < 0
  · exact ⟨0, 0, [], 2, by rw [sha_Pad.f, if_pos h0], by rw [bitloftref01_Pad.f, if_pos h0], by decide⟩
  by_cases h1 : n > 20000
  · exact ⟨0, 0, [], 2, by rw [sha_Pad.f, if_neg h0, if_pos h1], by rw [bitloftref01_Pad.f, if_neg h0, if_pos h1], by decide⟩
  · refine ⟨9, _, padl n, 0, by rw [sha_Pad.f, if_neg h0, if_neg h1, pad_eq n (by omega) (by omega)]; rfl, by rw [bitloftref01_Pad.f, if_neg h0, if_neg h1, rpad_eq n (by omega) (by omega)]; rfl, ?_⟩
    simp only [padl, List.length_append, List.length_singleton, List.length_replicate, padt_length]
    omega
theorem same_from (xs : List Int) (hx : xs.length < 100000) : ∀ (d i : Nat) (k : Nat), i + d = xs.length → d < k → bitloftref01_Same.l0 k xs xs (i : Int) = some true := by
  intro d
  induction d with
  | zero =>
    intro i k hi hk
    obtain ⟨k, rfl⟩ : ∃ m, k = m + 1 := ⟨k - 1, by omega⟩
    rw [bitloftref01_Same.l0, if_neg (by omega)]
  | succ d ih =>
    intro i k hi hk
    obtain ⟨k, rfl⟩ : ∃ m, k = m + 1 := ⟨k - 1, by omega⟩
    rw [bitloftref01_Same.l0, if_pos (by omega), if_pos (by omega), if_pos (by omega), if_pos rfl, show wrap64 ((i : Int) + 1) = ((i + 1 : Nat) : Int) by unfold wrap64; omega]
    exact ih (i + 1) k (by omega) (by omega)
theorem same_eq (xs : List Int) (hx : xs.length < 100000) : bitloftref01_Same.f (xs.length + 1) xs xs = some true := by
  unfold bitloftref01_Same.f
  rw [if_pos rfl]
  exact same_from xs hx xs.length 0 _ (by omega) (by omega)
theorem eq5 (p0 p1 p2 p3 p4 : Int) (d : Nat) (W : World) : (Op.equalIn (d + 2) 42 (.agg #[.int .u32 p0, .int .u32 p1, .int .u32 p2, .int .u32 p3, .int .u32 p4]) (.agg #[.int .u32 p0, .int .u32 p1, .int .u32 p2, .int .u32 p3, .int .u32 p4])).run Tryd.prog W = .ok true W :=
  (eqArr (P := Tryd.prog) d W Tryd.underlying42 Tryd.underlying41 (by kernel_rfl) [p0, p1, p2, p3, p4] [p0, p1, p2, p3, p4] rfl rfl).trans (by simp)
theorem blocks (n : Int) (hs : List Int) (A : Option Addr) (c : Nat) (l : List Int) (w : World) (hT : TabQ w) (hl5 : hs.length = 5) (hw : ∀ z ∈ hs, (Lit.int .u32 z).wf = true) (hr : Kd.C (Kd.int .u8) w A l.length l) (hc : l.length ≤ c) (hb : ∀ z ∈ l, 0 ≤ z ∧ z < 256) :
    Calls Tryd.prog 6 #[.int .i64 n, .agg (hs.map (Value.int .u32)).toArray, .slice A l.length c] w fun e w' => e = .returned (.bool true) ∧ Below w.heap.size w w' := by
  match hs, hl5 with
  | [h0, h1, h2, h3, h4], _ =>
    show Calls Tryd.prog 6 #[.int .i64 n, .agg #[.int .u32 h0, .int .u32 h1, .int .u32 h2, .int .u32 h3, .int .u32 h4], .slice A l.length c] w _
    by_cases hlen : 200 < l.length
    · exact blocks_long n h0 h1 h2 h3 h4 A c l w hT hlen
    obtain ⟨k1, k2, xa, en, e1, e2, hx⟩ := pad_both n
    have hp1 := fun W => sha_Pad.calls k1 n xa en W e1
    have hp2 := fun W => bitloftref01_Pad.calls k2 n xa en W e2
    have hsm := fun (W : World) (A1 A2 : Option Addr) (c1 c2 : Nat) (r1 : Kd.C (Kd.int .u8) W A1 xa.length xa) (q1 : xa.length ≤ c1) (r2 : Kd.C (Kd.int .u8) W A2 xa.length xa) (q2 : xa.length ≤ c2) => (bitloftref01_Same.calls (xa.length + 1) A1 c1 xa A2 c2 xa true W r1 q1 r2 q2 (same_eq xa (by omega))).mono (fun e w' h => (⟨h.1, by obtain ⟨m, hm⟩ := h.2; rw [hm]; exact pw_below_drewN (Below.refl _ _) m⟩ : e = .returned (.bool true) ∧ Below W.heap.size W w'))
    by_cases h64 : l.length = 64
    · have hd := do_done h0 h1 h2 h3 h4 l (by omega) hb
      refine blocks_short n h0 h1 h2 h3 h4 A c l w hT xa en 0 _ _ _ _ _ hp1 hp2 (fun W hT hB => block_ok h0 h1 h2 h3 h4 A c l W hT (Kd.C_below hr hB) hc h64) (fun W hT hB => ?_) hsm (eq5 _ _ _ _ _) hlen
      rw [hd]
      exact rblock_ok h0 h1 h2 h3 h4 A c l W (Kd.C_below hr hB) hc h64
    · exact blocks_short n h0 h1 h2 h3 h4 A c l w hT xa en 2 0 0 0 0 0 hp1 hp2 (fun W hT hB => block_bad h0 h1 h2 h3 h4 A c l W hT (Kd.C_below hr hB) hc h64) (fun W hT hB => rblock_bad h0 h1 h2 h3 h4 A c l W (Kd.C_below hr hB) hc h64) hsm (eq5 _ _ _ _ _) hlen
end Go.Proofs.YtbldecdipicddaaDoor.Hand
