/- ShaPads answers true, for every number. -/
import Derived.Test.YtbldecdipicddaaDoorQUx1
set_option linter.unusedSimpArgs false
set_option linter.unusedVariables false
namespace Go.Proofs.YtbldecdipicddaaDoor.Hand
open Go Go.RowKit Go.Proofs.YtbldecdipicddaaDoorW.PrintWords Go.Proofs.YtbldecdipicddaaDoorW.PrintMore
theorem pad_l0_eq : ∀ k n xs x, QU.sha_pad.l0 k n xs x = QP.sha_pad.l0 k n xs x
  | 0, _, _, _ => by rw [QU.sha_pad.l0, QP.sha_pad.l0]
  | k + 1, n, xs, x => by rw [QU.sha_pad.l0, QP.sha_pad.l0]; simp only [pad_l0_eq k]
theorem pad_u (n : Int) (h0 : 0 ≤ n) (h1 : n ≤ 20000) : QU.sha_pad.f 9 n = some (padl n) := by
  have := pad_eq n h0 h1
  unfold QP.sha_pad.f at this
  unfold QU.sha_pad.f
  simp only [pad_l0_eq]
  exact this
theorem raise {α : Type} (f : Nat → Option α) (h : ∀ k, LeO (f k) (f (k + 1))) (r : α) (a : Nat) : ∀ d, f a = some r → f (a + d) = some r
  | 0, e => e
  | d + 1, e => h (a + d) r (raise f h r a d e)
theorem Pad_u (d : Nat) (n : Int) (h0 : 0 ≤ n) (h1 : n ≤ 20000) : QU.sha_Pad.f (9 + d) n = some (padl n, 0) :=
  raise (fun k => QU.sha_Pad.f k n) (fun k => QU.sha_Pad.mono n k) _ 9 d (by show QU.sha_Pad.f 9 n = _; rw [QU.sha_Pad.f, if_neg (by omega), if_neg (by omega), pad_u n h0 h1]; rfl)
theorem padl_form (n : Int) (r : Nat) (hr : ((119 - n % 64) % 64).toNat = r) : padl n = 128 :: (List.replicate r 0 ++ padt n) := by
  unfold padl
  rw [hr]
  rfl
theorem rd_zero (n : Int) (r : Nat) (i : Int) (h1 : 1 ≤ i) (h2 : i < 1 + (r : Int)) : rd (128 :: (List.replicate r 0 ++ padt n)) i = 0 := by
  obtain ⟨j, rfl⟩ : ∃ j : Nat, i = ((j + 1 : Nat) : Int) := ⟨i.toNat - 1, by omega⟩
  unfold rd
  rw [Int.toNat_natCast, List.getD_cons_succ, List.getD_eq_getElem?_getD, List.getElem?_append_left (by rw [List.length_replicate]; omega), List.getElem?_replicate, if_pos (by omega)]
  rfl
theorem rd_tail (n : Int) (r j : Nat) (i : Int) (h : i = 1 + (r : Int) + (j : Int)) : rd (128 :: (List.replicate r 0 ++ padt n)) i = (padt n).getD j 0 := by
  obtain rfl : i = ((r + j + 1 : Nat) : Int) := by omega
  unfold rd
  rw [Int.toNat_natCast, List.getD_cons_succ, List.getD_eq_getElem?_getD, List.getElem?_append_right (by rw [List.length_replicate]; omega), List.length_replicate, show r + j - r = j by omega, ← List.getD_eq_getElem?_getD]
theorem l1_step (k : Nat) (n : Int) (xs : List Int) (L x7 x8 v : Int) (hL : L = (xs.length : Int)) (hL2 : L ≤ 100) (h0 : 0 ≤ x8) (h1 : x8 < L) (hv : rd xs x8 = v) (hv0 : 0 ≤ v) (h7 : 0 ≤ x7) (hm : 256 * x7 + v ≤ 160000) :
    QU.bitloftlaw01_ShaPads.l1 (k + 1) n xs L x7 x8 = QU.bitloftlaw01_ShaPads.l1 k n xs L (256 * x7 + v) (x8 + 1) := by
  rw [QU.bitloftlaw01_ShaPads.l1, if_pos h1, if_pos h0, if_pos (by omega), hv]
  rw [show wrap64 (wrap64 (256 * x7) + wrap64 v) = 256 * x7 + v by unfold wrap64; omega, if_neg (by omega), show wrap64 (x8 + 1) = x8 + 1 by unfold wrap64; omega]
theorem l0_run (K : Nat) (n : Int) (r : Nat) (L : Int) (hL : L = 9 + (r : Int)) (hr : r < 64) : ∀ (d : Nat) (i : Int), i + (d : Int) = 1 + (r : Int) → 1 ≤ i → QU.bitloftlaw01_ShaPads.l0 (d + 1 + K) n (128 :: (List.replicate r 0 ++ padt n)) L i = QU.bitloftlaw01_ShaPads.l1 K n (128 :: (List.replicate r 0 ++ padt n)) L 0 (1 + (r : Int))
  | 0, i, h, h1 => by
    rw [show 0 + 1 + K = K + 1 by omega, QU.bitloftlaw01_ShaPads.l0, show wrap64 (L - 8) = 1 + (r : Int) by unfold wrap64; omega, if_neg (by omega)]
  | d + 1, i, h, h1 => by
    have hl : ((128 :: (List.replicate r 0 ++ padt n) : List Int).length : Int) = 9 + (r : Int) := by
      simp only [List.length_cons, List.length_append, List.length_replicate, padt_length]
      omega
    rw [show d + 1 + 1 + K = (d + 1 + K) + 1 by omega, QU.bitloftlaw01_ShaPads.l0, show wrap64 (L - 8) = 1 + (r : Int) by unfold wrap64; omega, if_pos (by omega), if_pos (by omega), if_pos (by omega), if_pos (rd_zero n r i h1 (by omega)), show wrap64 (i + 1) = i + 1 by unfold wrap64; omega]
    exact l0_run K n r L hL hr d (i + 1) (by omega) (by omega)
theorem l1_run (n : Int) (r : Nat) (L : Int) (hL : L = 9 + (r : Int)) (hr : r < 64) (h0 : 0 ≤ n) (h1 : n ≤ 20000) : QU.bitloftlaw01_ShaPads.l1 9 n (128 :: (List.replicate r 0 ++ padt n)) L 0 (1 + (r : Int)) = some true := by
  have hl : L = ((128 :: (List.replicate r 0 ++ padt n) : List Int).length : Int) := by
    simp only [List.length_cons, List.length_append, List.length_replicate, padt_length]
    omega
  have e0 : pv n 56 = 0 := by show n * 8 / 72057594037927936 % 256 = 0; omega
  have e1 : pv n 48 = 0 := by show n * 8 / 281474976710656 % 256 = 0; omega
  have e2 : pv n 40 = 0 := by show n * 8 / 1099511627776 % 256 = 0; omega
  have e3 : pv n 32 = 0 := by show n * 8 / 4294967296 % 256 = 0; omega
  have e4 : pv n 24 = 0 := by show n * 8 / 16777216 % 256 = 0; omega
  have e5 : pv n 16 = n * 8 / 65536 := by show n * 8 / 65536 % 256 = n * 8 / 65536; omega
  have e6 : pv n 8 = n * 8 / 256 % 256 := rfl
  have e7 : pv n 0 = n * 8 % 256 := by show n * 8 / 1 % 256 = n * 8 % 256; omega
  rw [l1_step 8 n _ L 0 _ 0 hl (by omega) (by omega) (by omega) ((rd_tail n r 0 _ (by omega)).trans e0) (by omega) (by omega) (by omega)]
  rw [l1_step 7 n _ L _ _ 0 hl (by omega) (by omega) (by omega) ((rd_tail n r 1 _ (by omega)).trans e1) (by omega) (by omega) (by omega)]
  rw [l1_step 6 n _ L _ _ 0 hl (by omega) (by omega) (by omega) ((rd_tail n r 2 _ (by omega)).trans e2) (by omega) (by omega) (by omega)]
  rw [l1_step 5 n _ L _ _ 0 hl (by omega) (by omega) (by omega) ((rd_tail n r 3 _ (by omega)).trans e3) (by omega) (by omega) (by omega)]
  rw [l1_step 4 n _ L _ _ 0 hl (by omega) (by omega) (by omega) ((rd_tail n r 4 _ (by omega)).trans e4) (by omega) (by omega) (by omega)]
  rw [l1_step 3 n _ L _ _ (n * 8 / 65536) hl (by omega) (by omega) (by omega) ((rd_tail n r 5 _ (by omega)).trans e5) (by omega) (by omega) (by omega)]
  rw [l1_step 2 n _ L _ _ (n * 8 / 256 % 256) hl (by omega) (by omega) (by omega) ((rd_tail n r 6 _ (by omega)).trans e6) (by omega) (by omega) (by omega)]
  rw [l1_step 1 n _ L _ _ (n * 8 % 256) hl (by omega) (by omega) (by omega) ((rd_tail n r 7 _ (by omega)).trans e7) (by omega) (by omega) (by omega)]
  rw [QU.bitloftlaw01_ShaPads.l1, if_neg (by omega), if_pos (by unfold wrap64; omega)]
  rfl
theorem pads_eq (n : Int) : ∃ k, QU.bitloftlaw01_ShaPads.f k n = some true := by
  by_cases hn : n < 0
  · exact ⟨1, by rw [QU.bitloftlaw01_ShaPads.f, QU.sha_Pad.f, if_pos hn, Option.bind_some, if_pos hn, QU.bitloftlaw01_ShaPads.j0, if_pos rfl, if_pos rfl]; rfl⟩
  by_cases hn2 : n > 20000
  · exact ⟨1, by rw [QU.bitloftlaw01_ShaPads.f, QU.sha_Pad.f, if_neg hn, if_pos hn2, Option.bind_some, if_neg hn, decide_eq_true hn2, QU.bitloftlaw01_ShaPads.j0, if_pos rfl, if_pos rfl]; rfl⟩
  obtain ⟨r, hr⟩ : ∃ r : Nat, ((119 - n % 64) % 64).toNat = r := ⟨_, rfl⟩
  have hl : ((128 :: (List.replicate r 0 ++ padt n) : List Int).length : Int) = 9 + (r : Int) := by
    simp only [List.length_cons, List.length_append, List.length_replicate, padt_length]
    omega
  refine ⟨9 + (r + 3), ?_⟩
  rw [QU.bitloftlaw01_ShaPads.f, Pad_u (r + 3) n (by omega) (by omega), Option.bind_some, if_neg hn, decide_eq_false hn2]
  show QU.bitloftlaw01_ShaPads.j0 (9 + (r + 3)) n (padl n) 0 false = _
  rw [padl_form n r hr, show 9 + (r + 3) = (r + 11) + 1 by omega, QU.bitloftlaw01_ShaPads.j0, if_neg (by decide), if_pos rfl, hl, if_neg (by omega), if_neg (by omega)]
  rw [show wrap64 (n + (9 + (r : Int))) = n + (9 + (r : Int)) by unfold wrap64; omega, show Int.tmod (n + (9 + (r : Int))) 64 = (n + (9 + (r : Int))) % 64 from Int.tmod_eq_emod_of_nonneg (by omega), if_pos (by omega), if_pos (by omega)]
  rw [show (rd (128 :: (List.replicate r 0 ++ padt n)) 0 != 128) = false from rfl, show r + 11 = (r + 10) + 1 by omega, QU.bitloftlaw01_ShaPads.j1, if_neg (by decide), show r + 10 = r + 1 + 9 by omega, l0_run 9 n r _ rfl (by omega) r 1 (by omega) (by omega)]
  exact l1_run n r _ rfl (by omega) (by omega) (by omega)
theorem pads (n : Int) (w : World) (hT : TabQ w) : Calls Tryd.prog 11 #[.int .i64 n] w fun e w' => e = .returned (.bool true) ∧ Below w.heap.size w w' := by
  obtain ⟨k, h⟩ := pads_eq n
  exact QU.bitloftlaw01_ShaPads.calls k n true w hT h
end Go.Proofs.YtbldecdipicddaaDoor.Hand
