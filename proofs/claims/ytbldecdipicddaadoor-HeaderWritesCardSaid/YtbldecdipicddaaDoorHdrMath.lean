/- What Check, Encode and Parse of a header compute. Written by wip/s1/mkhdr.py. -/
import Derived.Test.YtbldecdipicddaaDoorQSx
set_option linter.unusedSimpArgs false
set_option linter.unusedVariables false
namespace Go.Proofs.YtbldecdipicddaaDoor.Hand
open Go Go.RowKit Go.Proofs.YtbldecdipicddaaDoorW.PrintWords Go.Proofs.YtbldecdipicddaaDoor.QS
def vld (m a b c d : Int) : Bool := decide ((0 ≤ a ∧ a < 16 ∧ 1 ≤ c ∧ c ≤ 4096 ∧ 0 ≤ b ∧ b ≤ 8192 - c) ∧ ((m = 1 ∧ d = c) ∨ (m = 2 ∧ 0 < d ∧ d < c)))
theorem vld_iff {m a b c d : Int} : vld m a b c d = true ↔ (0 ≤ a ∧ a < 16 ∧ 1 ≤ c ∧ c ≤ 4096 ∧ 0 ≤ b ∧ b ≤ 8192 - c) ∧ ((m = 1 ∧ d = c) ∨ (m = 2 ∧ 0 < d ∧ d < c)) := by unfold vld; exact decide_eq_true_iff
theorem check_eq (m a b c d s0 s1 s2 s3 s4 s5 s6 s7 s8 s9 s10 s11 s12 s13 s14 s15 s16 s17 s18 s19 : Int) : header_Check.f 5 m a b c d s0 s1 s2 s3 s4 s5 s6 s7 s8 s9 s10 s11 s12 s13 s14 s15 s16 s17 s18 s19 = some (if vld m a b c d = true then 0 else 8) := by
  by_cases h0 : a < 0
  · rw [if_neg (by rw [vld_iff]; omega)]
    simp only [header_Check.f, header_Check.j0, header_Check.j1, header_Check.j2, eq_true h0, if_true, if_false, decide_true, decide_false, Bool.false_eq_true]
  by_cases h1 : a ≥ 16
  · rw [if_neg (by rw [vld_iff]; omega)]
    simp only [header_Check.f, header_Check.j0, header_Check.j1, header_Check.j2, eq_false h0, eq_true h1, if_true, if_false, decide_true, decide_false, Bool.false_eq_true]
  by_cases h2 : c < 1
  · rw [if_neg (by rw [vld_iff]; omega)]
    simp only [header_Check.f, header_Check.j0, header_Check.j1, header_Check.j2, eq_false h0, eq_false h1, eq_true h2, if_true, if_false, decide_true, decide_false, Bool.false_eq_true]
  by_cases h3 : c > 4096
  · rw [if_neg (by rw [vld_iff]; omega)]
    simp only [header_Check.f, header_Check.j0, header_Check.j1, header_Check.j2, eq_false h0, eq_false h1, eq_false h2, eq_true h3, if_true, if_false, decide_true, decide_false, Bool.false_eq_true]
  by_cases h4 : b < 0
  · rw [if_neg (by rw [vld_iff]; omega)]
    simp only [header_Check.f, header_Check.j0, header_Check.j1, header_Check.j2, eq_false h0, eq_false h1, eq_false h2, eq_false h3, eq_true h4, if_true, if_false, decide_true, decide_false, Bool.false_eq_true]
  by_cases h5 : b > 8192 - c
  · rw [if_neg (by rw [vld_iff]; omega)]
    simp only [header_Check.f, header_Check.j0, header_Check.j1, header_Check.j2, eq_false h0, eq_false h1, eq_false h2, eq_false h3, eq_false h4, eq_true h5, if_true, if_false, decide_true, decide_false, Bool.false_eq_true, show wrap64 (8192 - c) = 8192 - c by unfold wrap64; omega]
  simp only [header_Check.f, header_Check.j0, header_Check.j1, header_Check.j2, eq_false h0, eq_false h1, eq_false h2, eq_false h3, eq_false h4, eq_false h5, if_true, if_false, decide_true, decide_false, Bool.false_eq_true, show wrap64 (8192 - c) = 8192 - c by unfold wrap64; omega, beq_iff_eq]
  by_cases g1 : m = 1
  · subst g1
    by_cases g2 : d = c
    · have hv : vld 1 a b c d = true := vld_iff.2 (by omega); rw [hv]; simp [g2]
    · have hv : vld 1 a b c d = false := Bool.eq_false_iff.2 (fun h => by have := vld_iff.1 h; omega); rw [hv]; simp [g2]
  · by_cases g2 : m = 2
    · subst g2
      by_cases g3 : d > 0
      · by_cases g4 : d < c
        · have hv : vld 2 a b c d = true := vld_iff.2 (by omega); simp [hv, g3, g4]; try omega
        · have hv : vld 2 a b c d = false := Bool.eq_false_iff.2 (fun h => by have := vld_iff.1 h; omega); simp [hv, g3, g4]; try omega
      · have hv : vld 2 a b c d = false := Bool.eq_false_iff.2 (fun h => by have := vld_iff.1 h; omega); simp [hv, g3]; try omega
    · have hv : vld m a b c d = false := Bool.eq_false_iff.2 (fun h => by have := vld_iff.1 h; omega); simp [hv, g1, g2]
theorem refCheck_eq (m a b c d s0 s1 s2 s3 s4 s5 s6 s7 s8 s9 s10 s11 s12 s13 s14 s15 s16 s17 s18 s19 : Int) : bitloftref26_Check.f 5 m a b c d s0 s1 s2 s3 s4 s5 s6 s7 s8 s9 s10 s11 s12 s13 s14 s15 s16 s17 s18 s19 = some (if vld m a b c d = true then 0 else 8) := by
  by_cases h0 : a < 0
  · rw [if_neg (by rw [vld_iff]; omega)]
    simp only [bitloftref26_Check.f, bitloftref26_Check.j0, eq_true h0, if_true, if_false, decide_true, decide_false, Bool.false_eq_true]
  by_cases h1 : a ≥ 16
  · rw [if_neg (by rw [vld_iff]; omega)]
    simp only [bitloftref26_Check.f, bitloftref26_Check.j0, eq_false h0, eq_true h1, if_true, if_false, decide_true, decide_false, Bool.false_eq_true]
  by_cases h2 : c < 1
  · rw [if_neg (by rw [vld_iff]; omega)]
    simp only [bitloftref26_Check.f, bitloftref26_Check.j0, eq_false h0, eq_false h1, eq_true h2, if_true, if_false, decide_true, decide_false, Bool.false_eq_true]
  by_cases h3 : c > 4096
  · rw [if_neg (by rw [vld_iff]; omega)]
    simp only [bitloftref26_Check.f, bitloftref26_Check.j0, eq_false h0, eq_false h1, eq_false h2, eq_true h3, if_true, if_false, decide_true, decide_false, Bool.false_eq_true]
  by_cases h4 : b < 0
  · rw [if_neg (by rw [vld_iff]; omega)]
    simp only [bitloftref26_Check.f, bitloftref26_Check.j0, eq_false h0, eq_false h1, eq_false h2, eq_false h3, eq_true h4, if_true, if_false, decide_true, decide_false, Bool.false_eq_true]
  by_cases h5 : b > 8192 - c
  · rw [if_neg (by rw [vld_iff]; omega)]
    simp only [bitloftref26_Check.f, bitloftref26_Check.j0, eq_false h0, eq_false h1, eq_false h2, eq_false h3, eq_false h4, eq_true h5, if_true, if_false, decide_true, decide_false, Bool.false_eq_true, show wrap64 (8192 - c) = 8192 - c by unfold wrap64; omega]
  simp only [bitloftref26_Check.f, bitloftref26_Check.j0, eq_false h0, eq_false h1, eq_false h2, eq_false h3, eq_false h4, eq_false h5, if_true, if_false, decide_true, decide_false, Bool.false_eq_true, show wrap64 (8192 - c) = 8192 - c by unfold wrap64; omega, beq_iff_eq]
  by_cases g1 : m = 1
  · subst g1
    by_cases g2 : d = c
    · have hv : vld 1 a b c d = true := vld_iff.2 (by omega); rw [hv]; simp [g2]
    · have hv : vld 1 a b c d = false := Bool.eq_false_iff.2 (fun h => by have := vld_iff.1 h; omega); rw [hv]; simp [g2]
  · by_cases g2 : m = 2
    · subst g2
      by_cases g3 : d > 0
      · by_cases g4 : d < c
        · have hv : vld 2 a b c d = true := vld_iff.2 (by omega); simp [hv, g3, g4]; try omega
        · have hv : vld 2 a b c d = false := Bool.eq_false_iff.2 (fun h => by have := vld_iff.1 h; omega); simp [hv, g3, g4]; try omega
      · have hv : vld 2 a b c d = false := Bool.eq_false_iff.2 (fun h => by have := vld_iff.1 h; omega); simp [hv, g3]; try omega
    · have hv : vld m a b c d = false := Bool.eq_false_iff.2 (fun h => by have := vld_iff.1 h; omega); simp [hv, g1, g2]
def byt (m a b c d : Int) : List Int := [m, a, b / 256, b % 256, c / 256, c % 256, d / 256, d % 256]
theorem fr_eq {m a b c d : Int} (h : vld m a b c d = true) : fr m a b c d 5 = byt m a b c d := by
  have := vld_iff.1 h
  rw [show fr m a b c d 5 = [wrap64 m % 256, a % 256, b / 256 % 256, b % 256, c / 256 % 256, c % 256, d / 256 % 256, d % 256] from rfl]
  obtain ⟨⟨h1, h2, h3, h4, h5, h6⟩, h7⟩ := this
  simp only [byt, wrap64, List.cons.injEq, and_true, true_and]
  refine ⟨?_, ?_, ?_, ?_, ?_⟩
  all_goals omega
theorem enc_ok (m a b c d s0 s1 s2 s3 s4 s5 s6 s7 s8 s9 s10 s11 s12 s13 s14 s15 s16 s17 s18 s19 : Int) (h : vld m a b c d = true) : header_Encode.f 5 m a b c d s0 s1 s2 s3 s4 s5 s6 s7 s8 s9 s10 s11 s12 s13 s14 s15 s16 s17 s18 s19 = some (byt m a b c d ++ [s0, s1, s2, s3, s4, s5, s6, s7, s8, s9, s10, s11, s12, s13, s14, s15, s16, s17, s18, s19], 0) := by
  simp only [header_Encode.f, check_eq, h, if_true, Option.bind_some, header_front.f, fr_eq h]
  rfl
theorem enc_bad (m a b c d s0 s1 s2 s3 s4 s5 s6 s7 s8 s9 s10 s11 s12 s13 s14 s15 s16 s17 s18 s19 : Int) (h : ¬ vld m a b c d = true) : header_Encode.f 5 m a b c d s0 s1 s2 s3 s4 s5 s6 s7 s8 s9 s10 s11 s12 s13 s14 s15 s16 s17 s18 s19 = some ([], 8) := by
  simp only [header_Encode.f, check_eq, h, if_false, Option.bind_some]
  rfl
theorem sh_eq {x b : Int} (hx : 0 ≤ x) (hx2 : x < 4294967296) (hb : 0 ≤ b ∧ b < 256) : sh x b = x * 256 + b := by
  unfold sh
  have e1 : wrap64 (x * 256) = x * 256 := by unfold wrap64; omega
  have e2 : wrap64 b = b := by unfold wrap64; omega
  rw [e1, e2]
  exact bits_join .i64 48 (by decide) (fun n h0 h1 => by rw [IntKind.wrap_i64]; omega) 8 _ _ (by omega) (by omega) (by omega) (by omega) (by omega) (by omega)
theorem parse_eq (b0 b1 b2 b3 b4 b5 b6 b7 b8 b9 b10 b11 b12 b13 b14 b15 b16 b17 b18 b19 b20 b21 b22 b23 b24 b25 b26 b27 : Int) (h0 : 0 ≤ b0 ∧ b0 < 256) (h1 : 0 ≤ b1 ∧ b1 < 256) (h2 : 0 ≤ b2 ∧ b2 < 256) (h3 : 0 ≤ b3 ∧ b3 < 256) (h4 : 0 ≤ b4 ∧ b4 < 256) (h5 : 0 ≤ b5 ∧ b5 < 256) (h6 : 0 ≤ b6 ∧ b6 < 256) (h7 : 0 ≤ b7 ∧ b7 < 256) : header_Parse.f 5 [b0, b1, b2, b3, b4, b5, b6, b7, b8, b9, b10, b11, b12, b13, b14, b15, b16, b17, b18, b19, b20, b21, b22, b23, b24, b25, b26, b27] = some (if vld b0 b1 (b2 * 256 + b3) (b4 * 256 + b5) (b6 * 256 + b7) = true then (b0, b1, b2 * 256 + b3, b4 * 256 + b5, b6 * 256 + b7, b8, b9, b10, b11, b12, b13, b14, b15, b16, b17, b18, b19, b20, b21, b22, b23, b24, b25, b26, b27, 0) else (0, 0, 0, 0, 0, 0, 0, 0, 0, 0, 0, 0, 0, 0, 0, 0, 0, 0, 0, 0, 0, 0, 0, 0, 0, 12)) := by
  have e0 : num [b0, b1, b2, b3, b4, b5, b6, b7, b8, b9, b10, b11, b12, b13, b14, b15, b16, b17, b18, b19, b20, b21, b22, b23, b24, b25, b26, b27] 0 1 % 256 = b0 := by
    show sh 0 b0 % 256 = b0
    rw [sh_eq (by omega) (by omega) h0]; omega
  have e1 : num [b0, b1, b2, b3, b4, b5, b6, b7, b8, b9, b10, b11, b12, b13, b14, b15, b16, b17, b18, b19, b20, b21, b22, b23, b24, b25, b26, b27] 1 1 = b1 := by
    show sh 0 b1 = b1
    rw [sh_eq (by omega) (by omega) h1]; omega
  have e2 : num [b0, b1, b2, b3, b4, b5, b6, b7, b8, b9, b10, b11, b12, b13, b14, b15, b16, b17, b18, b19, b20, b21, b22, b23, b24, b25, b26, b27] 2 2 = b2 * 256 + b3 := by
    show sh (sh 0 b2) b3 = _
    rw [sh_eq (x := 0) (by omega) (by omega) h2, sh_eq (by omega) (by omega) h3]; omega
  have e4 : num [b0, b1, b2, b3, b4, b5, b6, b7, b8, b9, b10, b11, b12, b13, b14, b15, b16, b17, b18, b19, b20, b21, b22, b23, b24, b25, b26, b27] 4 2 = b4 * 256 + b5 := by
    show sh (sh 0 b4) b5 = _
    rw [sh_eq (x := 0) (by omega) (by omega) h4, sh_eq (by omega) (by omega) h5]; omega
  have e6 : num [b0, b1, b2, b3, b4, b5, b6, b7, b8, b9, b10, b11, b12, b13, b14, b15, b16, b17, b18, b19, b20, b21, b22, b23, b24, b25, b26, b27] 6 2 = b6 * 256 + b7 := by
    show sh (sh 0 b6) b7 = _
    rw [sh_eq (x := 0) (by omega) (by omega) h6, sh_eq (by omega) (by omega) h7]; omega
  unfold header_Parse.f
  rw [if_pos (by rfl), e0, e1, e2, e4, e6]
  simp only [List.getD_cons_succ, List.getD_cons_zero, check_eq, Option.bind_some]
  split
  · rfl
  · rfl
theorem refParse_eq (b0 b1 b2 b3 b4 b5 b6 b7 b8 b9 b10 b11 b12 b13 b14 b15 b16 b17 b18 b19 b20 b21 b22 b23 b24 b25 b26 b27 : Int) (h0 : 0 ≤ b0 ∧ b0 < 256) (h1 : 0 ≤ b1 ∧ b1 < 256) (h2 : 0 ≤ b2 ∧ b2 < 256) (h3 : 0 ≤ b3 ∧ b3 < 256) (h4 : 0 ≤ b4 ∧ b4 < 256) (h5 : 0 ≤ b5 ∧ b5 < 256) (h6 : 0 ≤ b6 ∧ b6 < 256) (h7 : 0 ≤ b7 ∧ b7 < 256) : bitloftref26_Parse.f 5 [b0, b1, b2, b3, b4, b5, b6, b7, b8, b9, b10, b11, b12, b13, b14, b15, b16, b17, b18, b19, b20, b21, b22, b23, b24, b25, b26, b27] = some (if vld b0 b1 (b2 * 256 + b3) (b4 * 256 + b5) (b6 * 256 + b7) = true then (b0, b1, b2 * 256 + b3, b4 * 256 + b5, b6 * 256 + b7, b8, b9, b10, b11, b12, b13, b14, b15, b16, b17, b18, b19, b20, b21, b22, b23, b24, b25, b26, b27, 0) else (0, 0, 0, 0, 0, 0, 0, 0, 0, 0, 0, 0, 0, 0, 0, 0, 0, 0, 0, 0, 0, 0, 0, 0, 0, 12)) := by
  unfold bitloftref26_Parse.f
  rw [if_pos (by rfl)]
  simp only [List.getD_cons_succ, List.getD_cons_zero]
  rw [show wrap64 b1 = b1 by unfold wrap64; omega, show wrap64 (wrap64 (wrap64 b2 * 256) + wrap64 b3) = b2 * 256 + b3 by unfold wrap64; omega, show wrap64 (wrap64 (wrap64 b4 * 256) + wrap64 b5) = b4 * 256 + b5 by unfold wrap64; omega, show wrap64 (wrap64 (wrap64 b6 * 256) + wrap64 b7) = b6 * 256 + b7 by unfold wrap64; omega]
  simp only [refCheck_eq, Option.bind_some]
  split
  · rfl
  · rfl
theorem parse_short (l : List Int) (h : l.length ≠ 28) : header_Parse.f 5 l = some (0, 0, 0, 0, 0, 0, 0, 0, 0, 0, 0, 0, 0, 0, 0, 0, 0, 0, 0, 0, 0, 0, 0, 0, 0, 12) := by
  unfold header_Parse.f
  rw [if_neg h]
theorem refParse_short (l : List Int) (h : l.length ≠ 28) : bitloftref26_Parse.f 5 l = some (0, 0, 0, 0, 0, 0, 0, 0, 0, 0, 0, 0, 0, 0, 0, 0, 0, 0, 0, 0, 0, 0, 0, 0, 0, 12) := by
  unfold bitloftref26_Parse.f
  rw [if_neg h]
theorem str_inj {xs ys : List Int} (hx : ∀ x ∈ xs, 0 ≤ x ∧ x < 256) (hy : ∀ y ∈ ys, 0 ≤ y ∧ y < 256) (h : (strOfNums xs).toList = (strOfNums ys).toList) : xs = ys := by
  have e : ∀ zs : List Int, (strOfNums zs).toList = zs.map fun n => UInt8.ofNat n.toNat := by
    intro zs
    simp [strOfNums, ByteArray.toList_eq]
  rw [e, e] at h
  clear e
  induction xs generalizing ys with
  | nil => cases ys with
    | nil => rfl
    | cons y ys => simp at h
  | cons x xs ih => cases ys with
    | nil => simp at h
    | cons y ys =>
      simp only [List.map_cons, List.cons.injEq] at h
      have h1 := congrArg UInt8.toNat h.1
      have hx0 := hx x (by simp); have hy0 := hy y (by simp)
      simp only [UInt8.toNat_ofNat'] at h1
      rw [ih (fun z hz => hx z (by simp [hz])) (fun z hz => hy z (by simp [hz])) h.2]
      congr 1
      omega
end Go.Proofs.YtbldecdipicddaaDoor.Hand
