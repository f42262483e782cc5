/- HeaderNames answers true. Written by wip/s1/mklnames26.py. -/
import Derived.Test.YtbldecdipicddaaDoorHNames26
import Derived.Test.YtbldecdipicddaaDoorAlive26L
import Derived.Test.YtbldecdipicddaaDoorHParse
set_option linter.unusedSimpArgs false
set_option linter.unusedVariables false
namespace Go.Proofs.YtbldecdipicddaaDoor.Hand
open Go Go.RowKit Go.Proofs.YtbldecdipicddaaDoorW.PrintWords
set_option maxRecDepth 100000
def GL : List (Int × Int × Int × Int × Int) := [(1, 0, 0, 1, 1), (2, 15, 4096, 4096, 4095), (2, 0, 8190, 2, 1)]
def BLs : List (Int × Int × Int × Int × Int) := [(0, 0, 0, 0, 0), (3, 0, 0, 1, 1), (1, 0, 0, 2, 1), (1, 0, 0, 1, 2), (2, 0, 0, 1, 1), (2, 0, 0, 2, 0), (1, 16, 0, 1, 1), (1, (-1), 0, 1, 1), (1, 0, (-1), 1, 1), (1, 0, 8192, 1, 1), (1, 0, 0, 4097, 4097), (1, 0, 9223372036854775807, 1, 1)]
theorem GC_eq : GC = (GL.flatMap hz).toArray := by kernel_rfl
theorem BC_eq : BC = (BLs.flatMap hz).toArray := by kernel_rfl
theorem dig_a : dig (fin5 (byt 1 3 512 16 16 ++ List.replicate 16 0)) = [175, 168, 78, 239, 131, 13, 128, 79, 118, 43, 32, 35, 149, 206, 91, 101, 17, 34, 38, 246] := by decide +kernel
theorem dig_y : dig (fin5 ([1, 3, 2, 0, 0, 16, 0, 16] ++ List.replicate (Int.toNat 16) (0 : Int))) = [175, 168, 78, 239, 131, 13, 128, 79, 118, 43, 32, 35, 149, 206, 91, 101, 17, 34, 38, 246] := by decide +kernel
theorem dig_b : dig (fin5 (byt 1 3 512 16 16 ++ [0, 0, 0, 0, 0, 0, 0, 0, 0, 0, 0, 0, 0, 0, 0, 1])) = [123, 134, 133, 252, 118, 57, 142, 226, 245, 169, 185, 33, 45, 146, 111, 246, 9, 236, 38, 154] := by decide +kernel
theorem par_at (m a b c d : Int) (X : List Int) (hX : X.length = 28) (hv : vld m a b c d = true) (e : num X 0 1 % 256 = m ∧ num X 1 1 = a ∧ num X 2 2 = b ∧ num X 4 2 = c ∧ num X 6 2 = d) (hS : X.drop 8 = [0, 0, 0, 0, 0, 0, 0, 0, 0, 0, 0, 0, 0, 0, 0, 0, 0, 0, 0, 0]) (W : World) (g c' : Nat) (hT : TabW W) (hC : Kd.C (Kd.int .u8) W (some ⟨g, 0, none⟩) 28 X) (hc : 28 ≤ c') :
    Calls Tryd.prog 23 #[.slice (some ⟨g, 0, none⟩) 28 c'] W fun e w' => e = .returned (.tuple #[.agg #[.int .u8 m, .int .i64 a, .int .i64 b, .int .i64 c, .int .i64 d, .int .u8 0, .int .u8 0, .int .u8 0, .int .u8 0, .int .u8 0, .int .u8 0, .int .u8 0, .int .u8 0, .int .u8 0, .int .u8 0, .int .u8 0, .int .u8 0, .int .u8 0, .int .u8 0, .int .u8 0, .int .u8 0, .int .u8 0, .int .u8 0, .int .u8 0, .int .u8 0], .int .i64 0]) ∧ Below W.heap.size W w' := by
  obtain ⟨rfl, rfl, rfl, rfl, rfl⟩ := e
  have := Parse_calls (some ⟨g, 0, none⟩) c' X W hT (by rw [hX]; exact hC) (by omega) hX 0 0 0 0 0 0 0 0 0 0 0 0 0 0 0 0 0 0 0 0 0 hS (fun W => check_at _ _ _ _ _ 0 0 0 0 0 0 0 0 0 0 0 0 0 0 0 0 0 0 0 0 0 (.inl ⟨hv, rfl⟩) W)
  rw [hX] at this
  exact this
theorem bad_at (m a b c d : Int) (hv : ¬ vld m a b c d = true) : (∀ W : World, Calls Tryd.prog 21 #[.agg #[.int .u8 m, .int .i64 a, .int .i64 b, .int .i64 c, .int .i64 d, .int .u8 0, .int .u8 0, .int .u8 0, .int .u8 0, .int .u8 0, .int .u8 0, .int .u8 0, .int .u8 0, .int .u8 0, .int .u8 0, .int .u8 0, .int .u8 0, .int .u8 0, .int .u8 0, .int .u8 0, .int .u8 0, .int .u8 0, .int .u8 0, .int .u8 0, .int .u8 0]] W fun e w' => ∃ v0_ : Value, e = .returned (.tuple #[v0_, .int .i64 8]) ∧ Below W.heap.size W w') ∧ (∀ W : World, TabQ W ∧ TabW W → Calls Tryd.prog 50 #[.agg #[.int .u8 m, .int .i64 a, .int .i64 b, .int .i64 c, .int .i64 d, .int .u8 0, .int .u8 0, .int .u8 0, .int .u8 0, .int .u8 0, .int .u8 0, .int .u8 0, .int .u8 0, .int .u8 0, .int .u8 0, .int .u8 0, .int .u8 0, .int .u8 0, .int .u8 0, .int .u8 0, .int .u8 0, .int .u8 0, .int .u8 0, .int .u8 0, .int .u8 0], .slice none 0 0] W fun e w' => e = .returned (.tuple #[.agg #[.int .u8 0, .int .u8 0, .int .u8 0, .int .u8 0, .int .u8 0, .int .u8 0, .int .u8 0, .int .u8 0, .int .u8 0, .int .u8 0, .int .u8 0, .int .u8 0, .int .u8 0, .int .u8 0, .int .u8 0, .int .u8 0, .int .u8 0, .int .u8 0, .int .u8 0, .int .u8 0], .int .i64 8]) ∧ Below W.heap.size W w') ∧ (∀ W : World, TabQ W ∧ TabW W → Calls Tryd.prog 52 #[.agg #[.int .u8 m, .int .i64 a, .int .i64 b, .int .i64 c, .int .i64 d, .int .u8 0, .int .u8 0, .int .u8 0, .int .u8 0, .int .u8 0, .int .u8 0, .int .u8 0, .int .u8 0, .int .u8 0, .int .u8 0, .int .u8 0, .int .u8 0, .int .u8 0, .int .u8 0, .int .u8 0, .int .u8 0, .int .u8 0, .int .u8 0, .int .u8 0, .int .u8 0], .slice none 0 0] W fun e w' => e = .returned (.tuple #[.agg #[.int .u8 0, .int .i64 0, .int .i64 0, .int .i64 0, .int .i64 0, .int .u8 0, .int .u8 0, .int .u8 0, .int .u8 0, .int .u8 0, .int .u8 0, .int .u8 0, .int .u8 0, .int .u8 0, .int .u8 0, .int .u8 0, .int .u8 0, .int .u8 0, .int .u8 0, .int .u8 0, .int .u8 0, .int .u8 0, .int .u8 0, .int .u8 0, .int .u8 0], .int .i64 8]) ∧ Below W.heap.size W w') ∧ (∀ W : World, TabQ W ∧ TabW W → Calls Tryd.prog 54 #[.agg #[.int .u8 m, .int .i64 a, .int .i64 b, .int .i64 c, .int .i64 d, .int .u8 0, .int .u8 0, .int .u8 0, .int .u8 0, .int .u8 0, .int .u8 0, .int .u8 0, .int .u8 0, .int .u8 0, .int .u8 0, .int .u8 0, .int .u8 0, .int .u8 0, .int .u8 0, .int .u8 0, .int .u8 0, .int .u8 0, .int .u8 0, .int .u8 0, .int .u8 0], .slice none 0 0] W fun e w' => e = .returned (.tuple #[.bool false, .int .i64 8]) ∧ Below W.heap.size W w') ∧ (∀ W : World, Calls Tryd.prog 25 #[.agg #[.int .u8 m, .int .i64 a, .int .i64 b, .int .i64 c, .int .i64 d, .int .u8 0, .int .u8 0, .int .u8 0, .int .u8 0, .int .u8 0, .int .u8 0, .int .u8 0, .int .u8 0, .int .u8 0, .int .u8 0, .int .u8 0, .int .u8 0, .int .u8 0, .int .u8 0, .int .u8 0, .int .u8 0, .int .u8 0, .int .u8 0, .int .u8 0, .int .u8 0]] W fun e w' => e = .returned (.int .i64 8) ∧ Below W.heap.size W w') := by
  have hk := check_at m a b c d 0 0 0 0 0 0 0 0 0 0 0 0 0 0 0 0 0 0 0 0 8 (.inr ⟨hv, rfl⟩)
  refine ⟨fun W => (enc_no m a b c d 0 0 0 0 0 0 0 0 0 0 0 0 0 0 0 0 0 0 0 0 hv W).mono (fun e w' h => ?_), fun W hT => hDig_bad m a b c d 0 0 0 0 0 0 0 0 0 0 0 0 0 0 0 0 0 0 0 0 none 0 [] W hT hk, fun W hT => hSeal_err m a b c d 0 0 0 0 0 0 0 0 0 0 0 0 0 0 0 0 0 0 0 0 none 0 [] W hT 8 (by decide) (fun W' hT' hB' => hDig_bad m a b c d 0 0 0 0 0 0 0 0 0 0 0 0 0 0 0 0 0 0 0 0 none 0 [] W' hT' hk), fun W hT => hRight_bad m a b c d 0 0 0 0 0 0 0 0 0 0 0 0 0 0 0 0 0 0 0 0 none 0 [] W hT hk, hk⟩
  obtain ⟨v, h1, _, h2⟩ := h
  exact ⟨v, h1, h2⟩
theorem good_ld (i : Nat) (hi : i < 3) (W : World) (g t : Nat) (h : W.heap[g]? = some (.cells GC t (0, 0))) : (loadVar 25 ⟨g, i * 25, none⟩).run Tryd.prog W = .ok (.agg (hz GL[i]).toArray) W := elem_load GL (by rw [← GC_eq]; exact h) i hi
theorem bad_ld (i : Nat) (hi : i < 12) (W : World) (g t : Nat) (h : W.heap[g]? = some (.cells BC t (0, 0))) : (loadVar 25 ⟨g, i * 25, none⟩).run Tryd.prog W = .ok (.agg (hz BLs[i]).toArray) W := elem_load BLs (by rw [← BC_eq]; exact h) i hi
theorem names26 (w : World) (hT : TabQ w ∧ TabW w) : Calls Tryd.prog 15 #[] w fun e w' => e = .returned (.bool true) ∧ Below w.heap.size w w' := by
  have hv : vld 1 3 512 16 16 = true := by decide
  have h0 := check_at 1 3 512 16 16 0 0 0 0 0 0 0 0 0 0 0 0 0 0 0 0 0 0 0 0 0 (.inl ⟨hv, rfl⟩)
  have hD := check_at 1 3 512 16 16 175 168 78 239 131 13 128 79 118 43 32 35 149 206 91 101 17 34 38 246 0 (.inl ⟨hv, rfl⟩)
  have hq : ∀ (d : Nat) (W : World), (Op.equalIn (d + 2) 23 (.agg #[.int .u8 175, .int .u8 168, .int .u8 78, .int .u8 239, .int .u8 131, .int .u8 13, .int .u8 128, .int .u8 79, .int .u8 118, .int .u8 43, .int .u8 32, .int .u8 35, .int .u8 149, .int .u8 206, .int .u8 91, .int .u8 101, .int .u8 17, .int .u8 34, .int .u8 38, .int .u8 246]) (.agg #[.int .u8 175, .int .u8 168, .int .u8 78, .int .u8 239, .int .u8 131, .int .u8 13, .int .u8 128, .int .u8 79, .int .u8 118, .int .u8 43, .int .u8 32, .int .u8 35, .int .u8 149, .int .u8 206, .int .u8 91, .int .u8 101, .int .u8 17, .int .u8 34, .int .u8 38, .int .u8 246])).run Tryd.prog W = .ok true W := fun d W => (eqA23 d W 175 175 168 168 78 78 239 239 131 131 13 13 128 128 79 79 118 118 43 43 32 32 35 35 149 149 206 206 91 91 101 101 17 17 34 34 38 38 246 246).trans (by simp only [beq_self_eq_true, Bool.and_self])
  have hq1 : ∀ (d : Nat) (W : World), (Op.equalIn (d + 2) 23 (.agg #[.int .u8 123, .int .u8 134, .int .u8 133, .int .u8 252, .int .u8 118, .int .u8 57, .int .u8 142, .int .u8 226, .int .u8 245, .int .u8 169, .int .u8 185, .int .u8 33, .int .u8 45, .int .u8 146, .int .u8 111, .int .u8 246, .int .u8 9, .int .u8 236, .int .u8 38, .int .u8 154]) (.agg #[.int .u8 175, .int .u8 168, .int .u8 78, .int .u8 239, .int .u8 131, .int .u8 13, .int .u8 128, .int .u8 79, .int .u8 118, .int .u8 43, .int .u8 32, .int .u8 35, .int .u8 149, .int .u8 206, .int .u8 91, .int .u8 101, .int .u8 17, .int .u8 34, .int .u8 38, .int .u8 246])).run Tryd.prog W = .ok false W := fun d W => (eqA23 d W 123 175 134 168 133 78 252 239 118 131 57 13 142 128 226 79 245 118 169 43 185 32 33 35 45 149 146 206 111 91 246 101 9 17 236 34 38 38 154 246).trans (by simp)
  refine names26_walk 175 168 78 239 131 13 128 79 118 43 32 35 149 206 91 101 17 34 38 246 w hT ?hG ?hB (fun W => example_calls W) ?h19 ?h20 ?h21 ?h22 ?h23 ?h24 ?h25 ?h26 ?h27 (fun W hT => alive26w W hT)
  case hG =>
    intro i hi
    match i, hi with
    | 0, hi => exact ⟨1, 0, 0, 1, 1, byt 1 0 0 1 1 ++ [0, 0, 0, 0, 0, 0, 0, 0, 0, 0, 0, 0, 0, 0, 0, 0, 0, 0, 0, 0], rfl, fun W g t h => good_ld 0 hi W g t h, fun W hT => enc_yes 1 0 0 1 1 0 0 0 0 0 0 0 0 0 0 0 0 0 0 0 0 0 0 0 0 (by decide) W hT, fun W g c' hT hC hc => par_at 1 0 0 1 1 _ rfl (by decide) (by decide +kernel) rfl W g c' hT hC hc, check_at 1 0 0 1 1 0 0 0 0 0 0 0 0 0 0 0 0 0 0 0 0 0 0 0 0 0 (.inl ⟨by decide, rfl⟩)⟩
    | 1, hi => exact ⟨2, 15, 4096, 4096, 4095, byt 2 15 4096 4096 4095 ++ [0, 0, 0, 0, 0, 0, 0, 0, 0, 0, 0, 0, 0, 0, 0, 0, 0, 0, 0, 0], rfl, fun W g t h => good_ld 1 hi W g t h, fun W hT => enc_yes 2 15 4096 4096 4095 0 0 0 0 0 0 0 0 0 0 0 0 0 0 0 0 0 0 0 0 (by decide) W hT, fun W g c' hT hC hc => par_at 2 15 4096 4096 4095 _ rfl (by decide) (by decide +kernel) rfl W g c' hT hC hc, check_at 2 15 4096 4096 4095 0 0 0 0 0 0 0 0 0 0 0 0 0 0 0 0 0 0 0 0 0 (.inl ⟨by decide, rfl⟩)⟩
    | 2, hi => exact ⟨2, 0, 8190, 2, 1, byt 2 0 8190 2 1 ++ [0, 0, 0, 0, 0, 0, 0, 0, 0, 0, 0, 0, 0, 0, 0, 0, 0, 0, 0, 0], rfl, fun W g t h => good_ld 2 hi W g t h, fun W hT => enc_yes 2 0 8190 2 1 0 0 0 0 0 0 0 0 0 0 0 0 0 0 0 0 0 0 0 0 (by decide) W hT, fun W g c' hT hC hc => par_at 2 0 8190 2 1 _ rfl (by decide) (by decide +kernel) rfl W g c' hT hC hc, check_at 2 0 8190 2 1 0 0 0 0 0 0 0 0 0 0 0 0 0 0 0 0 0 0 0 0 0 (.inl ⟨by decide, rfl⟩)⟩
  case hB =>
    intro i hi
    match i, hi with
    | 0, hi => exact ⟨0, 0, 0, 0, 0, fun W g t h => bad_ld 0 hi W g t h, bad_at 0 0 0 0 0 (by decide)⟩
    | 1, hi => exact ⟨3, 0, 0, 1, 1, fun W g t h => bad_ld 1 hi W g t h, bad_at 3 0 0 1 1 (by decide)⟩
    | 2, hi => exact ⟨1, 0, 0, 2, 1, fun W g t h => bad_ld 2 hi W g t h, bad_at 1 0 0 2 1 (by decide)⟩
    | 3, hi => exact ⟨1, 0, 0, 1, 2, fun W g t h => bad_ld 3 hi W g t h, bad_at 1 0 0 1 2 (by decide)⟩
    | 4, hi => exact ⟨2, 0, 0, 1, 1, fun W g t h => bad_ld 4 hi W g t h, bad_at 2 0 0 1 1 (by decide)⟩
    | 5, hi => exact ⟨2, 0, 0, 2, 0, fun W g t h => bad_ld 5 hi W g t h, bad_at 2 0 0 2 0 (by decide)⟩
    | 6, hi => exact ⟨1, 16, 0, 1, 1, fun W g t h => bad_ld 6 hi W g t h, bad_at 1 16 0 1 1 (by decide)⟩
    | 7, hi => exact ⟨1, -1, 0, 1, 1, fun W g t h => bad_ld 7 hi W g t h, bad_at 1 (-1) 0 1 1 (by decide)⟩
    | 8, hi => exact ⟨1, 0, -1, 1, 1, fun W g t h => bad_ld 8 hi W g t h, bad_at 1 0 (-1) 1 1 (by decide)⟩
    | 9, hi => exact ⟨1, 0, 8192, 1, 1, fun W g t h => bad_ld 9 hi W g t h, bad_at 1 0 8192 1 1 (by decide)⟩
    | 10, hi => exact ⟨1, 0, 0, 4097, 4097, fun W g t h => bad_ld 10 hi W g t h, bad_at 1 0 0 4097 4097 (by decide)⟩
    | 11, hi => exact ⟨1, 0, 9223372036854775807, 1, 1, fun W g t h => bad_ld 11 hi W g t h, bad_at 1 0 9223372036854775807 1 1 (by decide)⟩
  case h19 =>
    intro W A1 c1 hT
    have := hDig_ne 1 3 512 16 16 0 0 0 0 0 0 0 0 0 0 0 0 0 0 0 0 0 0 0 0 A1 c1 (List.replicate 15 0) W hT h0 (by rw [List.length_replicate]; decide)
    rw [List.length_replicate] at this
    exact this
  case h20 =>
    intro W A1 c1 hT
    have := hSeal_err 1 3 512 16 16 0 0 0 0 0 0 0 0 0 0 0 0 0 0 0 0 0 0 0 0 A1 c1 (List.replicate 17 0) W hT 2 (by decide) (fun W' hT' hB' => hDig_ne 1 3 512 16 16 0 0 0 0 0 0 0 0 0 0 0 0 0 0 0 0 0 0 0 0 A1 c1 (List.replicate 17 0) W' hT' h0 (by rw [List.length_replicate]; decide))
    rw [List.length_replicate] at this
    exact this
  case h21 =>
    intro W A1 c1 hT
    have := hRight_ne 1 3 512 16 16 0 0 0 0 0 0 0 0 0 0 0 0 0 0 0 0 0 0 0 0 A1 c1 (List.replicate 17 0) W hT h0 (by rw [List.length_replicate]; decide)
    rw [List.length_replicate] at this
    exact this
  case h22 =>
    intro W A1 c1 hT hC
    have he : ((List.replicate 16 (0 : Int)).length : Int) = 16 := by rw [List.length_replicate]; rfl
    have hC' : Kd.C (Kd.int .u8) W A1 (List.replicate 16 (0 : Int)).length (List.replicate 16 0) := by rw [List.length_replicate]; exact hC
    have := hSeal_ok 1 3 512 16 16 0 0 0 0 0 0 0 0 0 0 0 0 0 0 0 0 0 0 0 0 A1 c1 (List.replicate 16 0) W hT 175 168 78 239 131 13 128 79 118 43 32 35 149 206 91 101 17 34 38 246 (fun W' hT' hB' => hDig_ok 1 3 512 16 16 0 0 0 0 0 0 0 0 0 0 0 0 0 0 0 0 0 0 0 0 A1 c1 (List.replicate 16 0) W' hT' 175 168 78 239 131 13 128 79 118 43 32 35 149 206 91 101 17 34 38 246 h0 he (fun W2 hT2 hB2 => dig_at 1 3 512 16 16 0 0 0 0 0 0 0 0 0 0 0 0 0 0 0 0 0 0 0 0 A1 c1 (List.replicate 16 0) hv (by rw [List.length_replicate]; decide) 175 168 78 239 131 13 128 79 118 43 32 35 149 206 91 101 17 34 38 246 dig_a W2 hT2 (Kd.C_below (Kd.C_below hC' hB') hB2)))
    rw [List.length_replicate] at this
    exact this
  case h23 =>
    intro W A1 c1 hT hC
    have he : ((List.replicate 16 (0 : Int)).length : Int) = 16 := by rw [List.length_replicate]; rfl
    have hC' : Kd.C (Kd.int .u8) W A1 (List.replicate 16 (0 : Int)).length (List.replicate 16 0) := by rw [List.length_replicate]; exact hC
    have := hRight_ok 1 3 512 16 16 175 168 78 239 131 13 128 79 118 43 32 35 149 206 91 101 17 34 38 246 A1 c1 (List.replicate 16 0) W hT 175 168 78 239 131 13 128 79 118 43 32 35 149 206 91 101 17 34 38 246 true hD he (fun W2 hT2 hB2 => dig_at 1 3 512 16 16 175 168 78 239 131 13 128 79 118 43 32 35 149 206 91 101 17 34 38 246 A1 c1 (List.replicate 16 0) hv (by rw [List.length_replicate]; decide) 175 168 78 239 131 13 128 79 118 43 32 35 149 206 91 101 17 34 38 246 dig_a W2 hT2 (Kd.C_below hC' hB2)) hq
    rw [List.length_replicate] at this
    exact this
  case h24 =>
    intro W A1 c1 hT hC
    exact hRight_ok 1 3 512 16 16 175 168 78 239 131 13 128 79 118 43 32 35 149 206 91 101 17 34 38 246 A1 c1 [0, 0, 0, 0, 0, 0, 0, 0, 0, 0, 0, 0, 0, 0, 0, 1] W hT 123 134 133 252 118 57 142 226 245 169 185 33 45 146 111 246 9 236 38 154 false hD rfl (fun W2 hT2 hB2 => dig_at 1 3 512 16 16 175 168 78 239 131 13 128 79 118 43 32 35 149 206 91 101 17 34 38 246 A1 c1 [0, 0, 0, 0, 0, 0, 0, 0, 0, 0, 0, 0, 0, 0, 0, 1] hv (by decide) 123 134 133 252 118 57 142 226 245 169 185 33 45 146 111 246 9 236 38 154 dig_b W2 hT2 (Kd.C_below hC hB2)) hq1
  case h25 =>
    intro W A1 c1 hT hC hc
    have := sum_c A1 c1 _ W hT hC hc (by decide)
    rw [dig_y] at this
    exact this
  case h26 =>
    intro W g c1 hT hC hc
    have := Parse_calls (some ⟨g, 0, none⟩) c1 (List.replicate 28 0) W hT (by rw [List.length_replicate]; exact hC) (by rw [List.length_replicate]; exact hc) List.length_replicate 0 0 0 0 0 0 0 0 0 0 0 0 0 0 0 0 0 0 0 0 8 rfl (fun W => by
      rw [show num (List.replicate 28 0) 0 1 % 256 = 0 by decide +kernel, show num (List.replicate 28 0) 1 1 = 0 by decide +kernel, show num (List.replicate 28 0) 2 2 = 0 by decide +kernel, show num (List.replicate 28 0) 4 2 = 0 by decide +kernel, show num (List.replicate 28 0) 6 2 = 0 by decide +kernel]
      exact check_at 0 0 0 0 0 0 0 0 0 0 0 0 0 0 0 0 0 0 0 0 0 0 0 0 0 8 (.inr ⟨by decide, rfl⟩) W)
    rw [List.length_replicate] at this
    exact this
  case h27 =>
    intro W g c1
    have := Parse_short (some ⟨g, 0, none⟩) c1 (List.replicate 29 0) W (by rw [List.length_replicate]; decide)
    rw [List.length_replicate] at this
    exact this
end Go.Proofs.YtbldecdipicddaaDoor.Hand
