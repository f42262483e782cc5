-- Written by qprint.py (a program of this session) out of the translation's print. Not trusted: Lean checks it.
import Derived.Test.YtgapkifgddjijaaQDx0
import Derived.Test.YtgapkifgddjijaaQDx1
import Derived.Test.YtgapkifgddjijaaQDx2
namespace Go.Proofs.Ytgapkifgddjijaa.QD
open Go.RowKit Go.Proofs.YtgapkifgddjijaaW.PrintWords Go.Proofs.YtgapkifgddjijaaW.PrintLast Go.Proofs.YtgapkifgddjijaaW.PrintMore
attribute [local go_sem] max2_int min2_int max_two min_two max_three min_three max_four min_four   -- for this text's walks alone
set_option linter.unusedVariables false
set_option linter.unusedSimpArgs false

/-! ### bitloftlaw21_DecoderRange: function 17 -/
mutual
def bitloftlaw21_DecoderRange.j0 : Nat → List Int → List Int → Bool → Bool → Option (Bool)
  | 0, _, _, _, _ => none
  | k + 1, x0, x1, x5, x37 => if x37 = true then (some x5) else ((decoder_New.f k x0).bind fun bt166 => ((encoder_New.f).bind fun bt175 => (if bt166.2.2.2.2.2 = 0 then (bitloftlaw21_DecoderRange.l0 k x0 x1 x5 0 bt166.1 bt166.2.1 bt166.2.2.1 bt166.2.2.2.1 bt166.2.2.2.2.1 bt175.1 bt175.2.1 bt175.2.2) else (none))))
def bitloftlaw21_DecoderRange.l0 : Nat → List Int → List Int → Bool → Int → Int → Int → Int → List Int → Int → Int → Int → List Int → Option (Bool)
  | 0, _, _, _, _, _, _, _, _, _, _, _, _ => none
  | k + 1, x0, x1, x5, x9, x175000, x175001, x175002, x175003, x175004, x181000, x181001, x181002 => if x9 < (x1.length : Int) then (if 0 ≤ x9 then ((decoder_Get.f k x175000 x175001 x175002 x175003 x175004 (rd x1 x9)).bind fun bt182 => ((encoder_Put.f k x181000 x181001 x181002 (rd x1 x9) bt182.2.2.2.2.2.1).bind fun bt193 => (if bt182.2.2.2.2.2.2 = 0 then (if bt193.2.2.2 = 0 then ((bitloftref21_Check.f k bt182.1 bt182.2.1 bt182.2.2.1 bt182.2.2.2.1 bt182.2.2.2.2.1).bind fun t200 => (if t200 = 0 then (if bt182.1 = bt193.1 then (if bt182.2.1 = bt193.2.1 then (if bt182.2.2.2.2.1 = (wrap64 ((bt193.2.2.1.length : Int) + 4)) then (bitloftlaw21_DecoderRange.l0 k x0 x1 x5 (wrap64 (x9 + 1)) bt182.1 bt182.2.1 bt182.2.2.1 bt182.2.2.2.1 bt182.2.2.2.2.1 bt193.1 bt193.2.1 bt193.2.2.1) else (none)) else (none)) else (none)) else (none))) else (none)) else (none)))) else (none)) else ((decoder_Over.f x175000 x175001 x175002 x175003 x175004).bind fun bt201 => (if bt201.2 = 0 then (bitloftlaw21_DecoderRange.j2 k x0 x5 (bt201.1 != (wrap64 ((wrap64 ((x0.length : Int) - (x181002.length : Int))) - 4))) x181000 x181001 x181002) else (bitloftlaw21_DecoderRange.j2 k x0 x5 true x181000 x181001 x181002)))
def bitloftlaw21_DecoderRange.j2 : Nat → List Int → Bool → Bool → Int → Int → List Int → Option (Bool)
  | 0, _, _, _, _, _, _ => none
  | k + 1, x0, x5, x126, x181000, x181001, x181002 => if x126 = true then (none) else (bitloftlaw21_DecoderRange.l1 k x0 x5 0 x181000 x181001 x181002)
def bitloftlaw21_DecoderRange.l1 : Nat → List Int → Bool → Int → Int → Int → List Int → Option (Bool)
  | 0, _, _, _, _, _, _ => none
  | k + 1, x0, x5, x17, x181000, x181001, x181002 => if x17 < (x181002.length : Int) then (if 0 ≤ x17 then ((bitloftref21_Byte.f x0 x17).bind fun t204 => (if (rd x181002 x17) = t204 then (bitloftlaw21_DecoderRange.l1 k x0 x5 (wrap64 (x17 + 1)) x181000 x181001 x181002) else (none))) else (none)) else (some x5)
end
def bitloftlaw21_DecoderRange.f (k : Nat) (l0 : List Int) (l1 : List Int) : Option (Bool) := (bitloftlaw21_alive.f k).bind fun t164 => (if (l0.length : Int) > 60 then (bitloftlaw21_DecoderRange.j0 k l0 l1 t164 true) else (if (l1.length : Int) > 60 then (bitloftlaw21_DecoderRange.j0 k l0 l1 t164 true) else ((bitloftref20_Probs.f k l1 (l1.length : Int)).bind fun t165 => (if t165 = 0 then (bitloftlaw21_DecoderRange.j0 k l0 l1 t164 (!t164)) else (bitloftlaw21_DecoderRange.j0 k l0 l1 t164 true)))))
theorem bitloftlaw21_DecoderRange.mono_l : ∀ k, (∀ y0 y1 y2 y3, LeO (bitloftlaw21_DecoderRange.j0 k y0 y1 y2 y3) (bitloftlaw21_DecoderRange.j0 (k + 1) y0 y1 y2 y3)) ∧ (∀ y0 y1 y2 y3 y4 y5 y6 y7 y8 y9 y10 y11, LeO (bitloftlaw21_DecoderRange.l0 k y0 y1 y2 y3 y4 y5 y6 y7 y8 y9 y10 y11) (bitloftlaw21_DecoderRange.l0 (k + 1) y0 y1 y2 y3 y4 y5 y6 y7 y8 y9 y10 y11)) ∧ (∀ y0 y1 y2 y3 y4 y5, LeO (bitloftlaw21_DecoderRange.j2 k y0 y1 y2 y3 y4 y5) (bitloftlaw21_DecoderRange.j2 (k + 1) y0 y1 y2 y3 y4 y5)) ∧ (∀ y0 y1 y2 y3 y4 y5, LeO (bitloftlaw21_DecoderRange.l1 k y0 y1 y2 y3 y4 y5) (bitloftlaw21_DecoderRange.l1 (k + 1) y0 y1 y2 y3 y4 y5))
  | 0 => ⟨fun _ _ _ _ r h => by simp [bitloftlaw21_DecoderRange.j0] at h, fun _ _ _ _ _ _ _ _ _ _ _ _ r h => by simp [bitloftlaw21_DecoderRange.l0] at h, fun _ _ _ _ _ _ r h => by simp [bitloftlaw21_DecoderRange.j2] at h, fun _ _ _ _ _ _ r h => by simp [bitloftlaw21_DecoderRange.l1] at h⟩
  | k + 1 => by
    obtain ⟨ih0, ih1, ih2, ih3⟩ := bitloftlaw21_DecoderRange.mono_l k
    refine ⟨?_, ?_, ?_, ?_⟩
    · intro y0 y1 y2 y3
      unfold bitloftlaw21_DecoderRange.j0
      repeat' first
      | (with_reducible exact ih0 _ _ _ _)
      | (with_reducible exact ih1 _ _ _ _ _ _ _ _ _ _ _ _)
      | (with_reducible exact ih2 _ _ _ _ _ _)
      | (with_reducible exact ih3 _ _ _ _ _ _)
      | (with_reducible exact bitloftlaw21_alive.mono _)
      | (with_reducible exact bitloftref20_Probs.mono _ _ _)
      | (with_reducible exact bitloftref21_Check.mono _ _ _ _ _ _)
      | (with_reducible exact decoder_Get.mono _ _ _ _ _ _ _)
      | (with_reducible exact decoder_New.mono _ _)
      | (with_reducible exact encoder_Put.mono _ _ _ _ _ _)
      | (with_reducible exact LeO.refl _)
      | (with_reducible exact LeO.none _)
      | (with_reducible refine LeO.ite ?_ ?_)
      | (with_reducible refine LeO.bind ?_ (fun _ => ?_))
      | exact ih0 _ _ _ _
      | exact ih1 _ _ _ _ _ _ _ _ _ _ _ _
      | exact ih2 _ _ _ _ _ _
      | exact ih3 _ _ _ _ _ _
      | exact bitloftlaw21_alive.mono _
      | exact bitloftref20_Probs.mono _ _ _
      | exact bitloftref21_Check.mono _ _ _ _ _ _
      | exact decoder_Get.mono _ _ _ _ _ _ _
      | exact decoder_New.mono _ _
      | exact encoder_Put.mono _ _ _ _ _ _
      | exact LeO.none _
      | refine LeO.ite ?_ ?_
      | refine LeO.bind ?_ (fun _ => ?_)
    · intro y0 y1 y2 y3 y4 y5 y6 y7 y8 y9 y10 y11
      unfold bitloftlaw21_DecoderRange.l0
      repeat' first
      | (with_reducible exact ih0 _ _ _ _)
      | (with_reducible exact ih1 _ _ _ _ _ _ _ _ _ _ _ _)
      | (with_reducible exact ih2 _ _ _ _ _ _)
      | (with_reducible exact ih3 _ _ _ _ _ _)
      | (with_reducible exact bitloftlaw21_alive.mono _)
      | (with_reducible exact bitloftref20_Probs.mono _ _ _)
      | (with_reducible exact bitloftref21_Check.mono _ _ _ _ _ _)
      | (with_reducible exact decoder_Get.mono _ _ _ _ _ _ _)
      | (with_reducible exact decoder_New.mono _ _)
      | (with_reducible exact encoder_Put.mono _ _ _ _ _ _)
      | (with_reducible exact LeO.refl _)
      | (with_reducible exact LeO.none _)
      | (with_reducible refine LeO.ite ?_ ?_)
      | (with_reducible refine LeO.bind ?_ (fun _ => ?_))
      | exact ih0 _ _ _ _
      | exact ih1 _ _ _ _ _ _ _ _ _ _ _ _
      | exact ih2 _ _ _ _ _ _
      | exact ih3 _ _ _ _ _ _
      | exact bitloftlaw21_alive.mono _
      | exact bitloftref20_Probs.mono _ _ _
      | exact bitloftref21_Check.mono _ _ _ _ _ _
      | exact decoder_Get.mono _ _ _ _ _ _ _
      | exact decoder_New.mono _ _
      | exact encoder_Put.mono _ _ _ _ _ _
      | exact LeO.none _
      | refine LeO.ite ?_ ?_
      | refine LeO.bind ?_ (fun _ => ?_)
    · intro y0 y1 y2 y3 y4 y5
      unfold bitloftlaw21_DecoderRange.j2
      repeat' first
      | (with_reducible exact ih0 _ _ _ _)
      | (with_reducible exact ih1 _ _ _ _ _ _ _ _ _ _ _ _)
      | (with_reducible exact ih2 _ _ _ _ _ _)
      | (with_reducible exact ih3 _ _ _ _ _ _)
      | (with_reducible exact bitloftlaw21_alive.mono _)
      | (with_reducible exact bitloftref20_Probs.mono _ _ _)
      | (with_reducible exact bitloftref21_Check.mono _ _ _ _ _ _)
      | (with_reducible exact decoder_Get.mono _ _ _ _ _ _ _)
      | (with_reducible exact decoder_New.mono _ _)
      | (with_reducible exact encoder_Put.mono _ _ _ _ _ _)
      | (with_reducible exact LeO.refl _)
      | (with_reducible exact LeO.none _)
      | (with_reducible refine LeO.ite ?_ ?_)
      | (with_reducible refine LeO.bind ?_ (fun _ => ?_))
      | exact ih0 _ _ _ _
      | exact ih1 _ _ _ _ _ _ _ _ _ _ _ _
      | exact ih2 _ _ _ _ _ _
      | exact ih3 _ _ _ _ _ _
      | exact bitloftlaw21_alive.mono _
      | exact bitloftref20_Probs.mono _ _ _
      | exact bitloftref21_Check.mono _ _ _ _ _ _
      | exact decoder_Get.mono _ _ _ _ _ _ _
      | exact decoder_New.mono _ _
      | exact encoder_Put.mono _ _ _ _ _ _
      | exact LeO.none _
      | refine LeO.ite ?_ ?_
      | refine LeO.bind ?_ (fun _ => ?_)
    · intro y0 y1 y2 y3 y4 y5
      unfold bitloftlaw21_DecoderRange.l1
      repeat' first
      | (with_reducible exact ih0 _ _ _ _)
      | (with_reducible exact ih1 _ _ _ _ _ _ _ _ _ _ _ _)
      | (with_reducible exact ih2 _ _ _ _ _ _)
      | (with_reducible exact ih3 _ _ _ _ _ _)
      | (with_reducible exact bitloftlaw21_alive.mono _)
      | (with_reducible exact bitloftref20_Probs.mono _ _ _)
      | (with_reducible exact bitloftref21_Check.mono _ _ _ _ _ _)
      | (with_reducible exact decoder_Get.mono _ _ _ _ _ _ _)
      | (with_reducible exact decoder_New.mono _ _)
      | (with_reducible exact encoder_Put.mono _ _ _ _ _ _)
      | (with_reducible exact LeO.refl _)
      | (with_reducible exact LeO.none _)
      | (with_reducible refine LeO.ite ?_ ?_)
      | (with_reducible refine LeO.bind ?_ (fun _ => ?_))
      | exact ih0 _ _ _ _
      | exact ih1 _ _ _ _ _ _ _ _ _ _ _ _
      | exact ih2 _ _ _ _ _ _
      | exact ih3 _ _ _ _ _ _
      | exact bitloftlaw21_alive.mono _
      | exact bitloftref20_Probs.mono _ _ _
      | exact bitloftref21_Check.mono _ _ _ _ _ _
      | exact decoder_Get.mono _ _ _ _ _ _ _
      | exact decoder_New.mono _ _
      | exact encoder_Put.mono _ _ _ _ _ _
      | exact LeO.none _
      | refine LeO.ite ?_ ?_
      | refine LeO.bind ?_ (fun _ => ?_)
theorem bitloftlaw21_DecoderRange.mono : ∀ a0 a1 k, LeO (bitloftlaw21_DecoderRange.f k a0 a1) (bitloftlaw21_DecoderRange.f (k + 1) a0 a1) := by
  intro a0 a1 k
  obtain ⟨ih0, ih1, ih2, ih3⟩ := bitloftlaw21_DecoderRange.mono_l k
  unfold bitloftlaw21_DecoderRange.f
  repeat' first
      | (with_reducible exact ih0 _ _ _ _)
      | (with_reducible exact ih1 _ _ _ _ _ _ _ _ _ _ _ _)
      | (with_reducible exact ih2 _ _ _ _ _ _)
      | (with_reducible exact ih3 _ _ _ _ _ _)
      | (with_reducible exact bitloftlaw21_alive.mono _)
      | (with_reducible exact bitloftref20_Probs.mono _ _ _)
      | (with_reducible exact bitloftref21_Check.mono _ _ _ _ _ _)
      | (with_reducible exact decoder_Get.mono _ _ _ _ _ _ _)
      | (with_reducible exact decoder_New.mono _ _)
      | (with_reducible exact encoder_Put.mono _ _ _ _ _ _)
      | (with_reducible exact LeO.refl _)
      | (with_reducible exact LeO.none _)
      | (with_reducible refine LeO.ite ?_ ?_)
      | (with_reducible refine LeO.bind ?_ (fun _ => ?_))
      | exact ih0 _ _ _ _
      | exact ih1 _ _ _ _ _ _ _ _ _ _ _ _
      | exact ih2 _ _ _ _ _ _
      | exact ih3 _ _ _ _ _ _
      | exact bitloftlaw21_alive.mono _
      | exact bitloftref20_Probs.mono _ _ _
      | exact bitloftref21_Check.mono _ _ _ _ _ _
      | exact decoder_Get.mono _ _ _ _ _ _ _
      | exact decoder_New.mono _ _
      | exact encoder_Put.mono _ _ _ _ _ _
      | exact LeO.none _
      | refine LeO.ite ?_ ?_
      | refine LeO.bind ?_ (fun _ => ?_)
def bitloftlaw21_DecoderRange.T11 : Bool × List (List Nat × List Nat) := (true, [([], []), ([], []), ([], []), ([1, 2], [1, 2]), ([3], [3]), ([0, 4], [0, 4]), ([5], [5]), ([6], [6]), ([6], [6]), ([6], [6]), ([], []), ([10, 7, 5, 0, 1, 2, 3, 4, 5, 6, 7, 10], [7, 10]), ([8, 11, 0, 1, 2, 3, 4, 5, 6, 7, 8, 10, 11], [8]), ([9, 12, 0, 1, 2, 3, 4, 5, 6, 7, 8, 9, 10, 11, 12], [9])])
def bitloftlaw21_DecoderRange.B11 : List Nat := [0, 0, 0, 6, 14, 31, 63, 127, 127, 127, 0, 1279, 3583, 8191]
theorem bitloftlaw21_DecoderRange.tab11 : rtab .any (opsOf Try.f17 11) = bitloftlaw21_DecoderRange.T11 := by kernel_rfl
theorem bitloftlaw21_DecoderRange.bits11 : waitsOk bitloftlaw21_DecoderRange.T11.2 bitloftlaw21_DecoderRange.B11 = true := by kernel_rfl
def bitloftlaw21_DecoderRange.T12 : Bool × List (List Nat × List Nat) := (true, [([], []), ([], []), ([], []), ([1, 2], [1, 2]), ([3], [3]), ([], []), ([0, 4, 5], [0, 4, 5]), ([6], [6]), ([7], [7]), ([7], [7]), ([], []), ([10, 8, 6, 0, 1, 2, 3, 4, 5, 6, 7, 8, 10], [8, 10]), ([9, 11, 0, 1, 2, 3, 4, 5, 6, 7, 8, 9, 10, 11], [9])])
def bitloftlaw21_DecoderRange.B12 : List Nat := [0, 0, 0, 6, 14, 0, 63, 127, 255, 255, 0, 1535, 4095]
theorem bitloftlaw21_DecoderRange.tab12 : rtab .any (opsOf Try.f17 12) = bitloftlaw21_DecoderRange.T12 := by kernel_rfl
theorem bitloftlaw21_DecoderRange.bits12 : waitsOk bitloftlaw21_DecoderRange.T12.2 bitloftlaw21_DecoderRange.B12 = true := by kernel_rfl
def bitloftlaw21_DecoderRange.T22 : Bool × List (List Nat × List Nat) := (true, [([], []), ([0], [0]), ([], []), ([1, 2], [1, 2]), ([3], [3]), ([], []), ([], []), ([5, 6], [5, 6]), ([4, 7], [4, 7])])
def bitloftlaw21_DecoderRange.B22 : List Nat := [0, 1, 0, 7, 15, 0, 0, 96, 255]
theorem bitloftlaw21_DecoderRange.tab22 : rtab .any (opsOf Try.f17 22) = bitloftlaw21_DecoderRange.T22 := by kernel_rfl
theorem bitloftlaw21_DecoderRange.bits22 : waitsOk bitloftlaw21_DecoderRange.T22.2 bitloftlaw21_DecoderRange.B22 = true := by kernel_rfl
set_option maxHeartbeats 8000000 in
set_option maxRecDepth 100000 in
theorem bitloftlaw21_DecoderRange.calls (k : Nat) (A0 : Option Addr) (c0 : Nat) (l0 : List Int) (A1 : Option Addr) (c1 : Nat) (l1 : List Int) (r : Bool) (w : World) (hr0 : Kd.C (Kd.int .u8) w A0 l0.length l0) (hc0 : l0.length ≤ c0) (hr1 : Kd.C (Kd.int .i64) w A1 l1.length l1) (hc1 : l1.length ≤ c1) (h : bitloftlaw21_DecoderRange.f k l0 l1 = some r) :
    Calls Try.prog 17 #[.slice A0 l0.length c0, .slice A1 l1.length c1] w fun e w' => e = .returned (.bool r) ∧ Below w.heap.size w w' := by
  have hu72 := Try.underlying72
  have hu42 := Try.underlying42
  have HR0 := Aside0.mk hr0
  have HC0 := Aside0.mk hc0
  clear hr0 hc0
  have HR1 := Aside0.mk hr1
  have HC1 := Aside0.mk hc1
  clear hr1 hc1
  have HB := Aside0.mk (Below.refl w.heap.size w)
  have H : ((bitloftlaw21_alive.f k).bind fun t164 => (if (l0.length : Int) > 60 then (bitloftlaw21_DecoderRange.j0 k l0 l1 t164 true) else (if (l1.length : Int) > 60 then (bitloftlaw21_DecoderRange.j0 k l0 l1 t164 true) else ((bitloftref20_Probs.f k l1 (l1.length : Int)).bind fun t165 => (if t165 = 0 then (bitloftlaw21_DecoderRange.j0 k l0 l1 t164 (!t164)) else (bitloftlaw21_DecoderRange.j0 k l0 l1 t164 true)))))) = some r := h
  clear h
  replace H := Option.bind_eq_some_iff.mp H
  obtain ⟨t164, A30, H⟩ := H
  replace H : (if (l0.length : Int) > 60 then (bitloftlaw21_DecoderRange.j0 k l0 l1 t164 true) else (if (l1.length : Int) > 60 then (bitloftlaw21_DecoderRange.j0 k l0 l1 t164 true) else ((bitloftref20_Probs.f k l1 (l1.length : Int)).bind fun t165 => (if t165 = 0 then (bitloftlaw21_DecoderRange.j0 k l0 l1 t164 (!t164)) else (bitloftlaw21_DecoderRange.j0 k l0 l1 t164 true))))) = some r := H
  have A3 := Aside0.mk A30
  clear A30
  have HC4 := Aside0.mk H
  clear H
  go_enter Try.func17, Try.ntmps17
  go_upto_region 2 with (first | ((with_reducible refine gate_callee (f := 59) rfl ?_); refine goesL_ (some 18) rfl rfl Try.func59 (by kernel_rfl) rfl #[] rfl (by (try simp only [List.map_toArray, List.map_cons, List.map_nil]); first | done | rfl | (simp only [List.length_drop, List.length_take]; rfl)) ?_; (with_reducible refine (bitloftlaw21_alive.calls k  t164 _ A3.out).mono ?_); rintro e w5 ⟨rfl, hb⟩; refine ⟨_, rfl, ?_⟩; have n0_ := Aside0.mk (below_step (by repeat (first | (with_reducible first | exact HB.out | apply below_alloc | apply pw_below_drewN | apply below_drew1) | exact HB.out)) hb); clear HB; have HB := n0_; clear n0_; (try clear hb); (try clear hb2); (try clear hk); (try clear hi)))
  (try simp only [Act.put, List.setIfInBounds_toArray, List.set_cons_zero, List.set_cons_succ])
  go_cut [37] (fun v37 wc => ∃ (kq : Nat) (x37_3 : Bool), v37 = .bool x37_3 ∧ Aside0 (bitloftlaw21_DecoderRange.j0 kq l0 l1 t164 x37_3 = some r) ∧ Aside0 (kq ≤ k) ∧ Aside0 (Below w.heap.size w wc))
  case first =>
    have H := HC4.out
    clear HC4
    by_cases c6 : (l0.length : Int) > 60
    · rw [if_pos c6] at H
      have c6b0 : decide (60 < (l0.length : Int)) = true := decide_eq_true c6
      have c6b1 : decide (60 < l0.length) = true := decide_eq_true (by omega)
      clear c6
      (first | rw [c6b0] | (simp only [i64_w, i32_w]; rw [c6b0]) | skip)
      have H' := Aside0.mk H
      clear H
      go_wp2
      go_meet
      case rel => exact ⟨_, (true), (by first | rfl | (simp; done) | (simp [*]; done)), H', ⟨by first | omega | exact Nat.le_refl _⟩, ⟨by repeat (first | (with_reducible first | exact HB.out | apply below_alloc | apply pw_below_drewN | apply below_drew1) | exact HB.out)⟩⟩
    · rw [if_neg c6] at H
      have c6b0 : decide (60 < (l0.length : Int)) = false := decide_eq_false c6
      have c6b1 : decide (60 < l0.length) = false := decide_eq_false (by omega)
      clear c6
      (first | rw [c6b0] | (simp only [i64_w, i32_w]; rw [c6b0]) | skip)
      by_cases c7 : (l1.length : Int) > 60
      · rw [if_pos c7] at H
        have c7b0 : decide (60 < (l1.length : Int)) = true := decide_eq_true c7
        have c7b1 : decide (60 < l1.length) = true := decide_eq_true (by omega)
        clear c7
        have H' := Aside0.mk H
        clear H
        go_wp2
        go_meet
        case rel => exact ⟨_, (true), (by first | rfl | (simp; done) | (simp [*]; done)), H', ⟨by first | omega | exact Nat.le_refl _⟩, ⟨by repeat (first | (with_reducible first | exact HB.out | apply below_alloc | apply pw_below_drewN | apply below_drew1) | exact HB.out)⟩⟩
      · rw [if_neg c7] at H
        have c7b0 : decide (60 < (l1.length : Int)) = false := decide_eq_false c7
        have c7b1 : decide (60 < l1.length) = false := decide_eq_false (by omega)
        clear c7
        replace H := Option.bind_eq_some_iff.mp H
        obtain ⟨t165, A80, H⟩ := H
        replace H : (if t165 = 0 then (bitloftlaw21_DecoderRange.j0 k l0 l1 t164 (!t164)) else (bitloftlaw21_DecoderRange.j0 k l0 l1 t164 true)) = some r := H
        have A8 := Aside0.mk A80
        clear A80
        by_cases c9 : t165 = 0
        · rw [if_pos c9] at H
          have c9b0 : (t165 == 0) = true := beq_iff_eq.mpr c9
          have c9b1 : (t165 != 0) = false := bne_eq_false_iff_eq.mpr c9
          clear c9
          have H' := Aside0.mk H
          clear H
          go_wp2_with (first | (go_at_call 57; (with_reducible refine (bitloftref20_Probs.calls k _ _ l1 (l1.length : Int) t165 _ ?side1 ?side2 A8.out).mono ?_); (case side1 => repeat (first | exact (Kd.C_below HR1.out HB.out) | (with_reducible refine Kd.C_alloc ?_ _) | (with_reducible refine Kd.C_drewN ?_ _) | (with_reducible refine Kd.C_drew ?_))); (case side2 => exact HC1.out); rintro e w' ⟨rfl, ⟨nd, rfl⟩⟩))
          go_meet
          case rel => exact ⟨_, (!t164), (by first | rfl | (simp; done) | (simp [*]; done)), H', ⟨by first | omega | exact Nat.le_refl _⟩, ⟨by repeat (first | (with_reducible first | exact HB.out | apply below_alloc | apply pw_below_drewN | apply below_drew1) | exact HB.out)⟩⟩
        · rw [if_neg c9] at H
          have c9b0 : (t165 == 0) = false := beq_eq_false_iff_ne.mpr c9
          have c9b1 : (t165 != 0) = true := bne_iff_ne.mpr c9
          have H' := Aside0.mk H
          clear H
          go_wp2_with (first | (go_at_call 57; (with_reducible refine (bitloftref20_Probs.calls k _ _ l1 (l1.length : Int) t165 _ ?side1 ?side2 A8.out).mono ?_); (case side1 => repeat (first | exact (Kd.C_below HR1.out HB.out) | (with_reducible refine Kd.C_alloc ?_ _) | (with_reducible refine Kd.C_drewN ?_ _) | (with_reducible refine Kd.C_drew ?_))); (case side2 => exact HC1.out); rintro e w' ⟨rfl, ⟨nd, rfl⟩⟩))
          go_meet
          case rel => exact ⟨_, (true), (by first | rfl | (simp; done) | (simp [*]; done)), H', ⟨by first | omega | exact Nat.le_refl _⟩, ⟨by repeat (first | (with_reducible first | exact HB.out | apply below_alloc | apply pw_below_drewN | apply below_drew1) | exact HB.out)⟩⟩
  case rest =>
    clear HC4
    try clear c1
    try clear p2
    try clear c5
    try clear c6
    try clear c6b0
    try clear c6b1
    try clear c7
    try clear c7b0
    try clear c7b1
    try clear c9
    try clear c9b0
    try clear c9b1
    obtain ⟨kq, x37_3, rfl, HA, HJ3, HB⟩ := hcut
    cases kq with
    | zero => exact absurd HA.out (by simp [bitloftlaw21_DecoderRange.j0])
    | succ kj3 =>
      have H := HA.out
      clear HA
      simp only [bitloftlaw21_DecoderRange.j0] at H
      by_cases c10 : x37_3 = true
      · subst c10
        have H1 : (some t164) = some r := by rw [if_pos rfl] at H; exact H
        clear H
        have H := H1
        clear H1
        obtain rfl := Option.some.inj H
        go_wp2
        go_ret
        exact ⟨by first | rfl | (simp [errW_none, errW_some] <;> rfl) | (simp [*, errW_none, errW_some] <;> rfl), by repeat (first | (with_reducible first | exact HB.out | apply below_alloc | apply pw_below_drewN | apply below_drew1) | exact HB.out)⟩
      · replace c10 := Bool.eq_false_iff.mpr c10
        subst c10
        have H1 : ((decoder_New.f kj3 l0).bind fun bt166 => ((encoder_New.f).bind fun bt175 => (if bt166.2.2.2.2.2 = 0 then (bitloftlaw21_DecoderRange.l0 kj3 l0 l1 t164 0 bt166.1 bt166.2.1 bt166.2.2.1 bt166.2.2.2.1 bt166.2.2.2.2.1 bt175.1 bt175.2.1 bt175.2.2) else (none)))) = some r := by rw [if_neg (show ¬ (false = true) by decide)] at H; exact H
        clear H
        have H := H1
        clear H1
        replace H := Option.bind_eq_some_iff.mp H
        obtain ⟨⟨t166, t167, t168, t169, t172, t173⟩, A110, H⟩ := H
        replace H : ((encoder_New.f).bind fun bt175 => (if t173 = 0 then (bitloftlaw21_DecoderRange.l0 kj3 l0 l1 t164 0 t166 t167 t168 t169 t172 bt175.1 bt175.2.1 bt175.2.2) else (none))) = some r := H
        have A11 := Aside0.mk A110
        clear A110
        replace H := Option.bind_eq_some_iff.mp H
        obtain ⟨⟨t175, t176, t177⟩, A120, H⟩ := H
        replace H : (if t173 = 0 then (bitloftlaw21_DecoderRange.l0 kj3 l0 l1 t164 0 t166 t167 t168 t169 t172 t175 t176 t177) else (none)) = some r := H
        have A12 := Aside0.mk A120
        clear A120
        by_cases c13 : t173 = 0
        · rw [if_pos c13] at H
          have c13b0 : (t173 == 0) = true := beq_iff_eq.mpr c13
          have c13b1 : (t173 != 0) = false := bne_eq_false_iff_eq.mpr c13
          clear c13
          have H' := Aside0.mk H
          clear H
          go_wp2_with (first | ((with_reducible refine gate_callee (f := 48) rfl ?_); refine goesL_ (some 41) rfl rfl Try.func48 (by kernel_rfl) rfl #[.slice A0 l0.length c0] rfl (by (try simp only [List.map_toArray, List.map_cons, List.map_nil]); first | done | rfl | (simp only [List.length_drop, List.length_take]; rfl)) ?_; (with_reducible refine (decoder_New.calls kj3 _ _ l0 t166 t167 t168 t169 t172 t173 _ ?side1 ?side2 A11.out).mono ?_); (case side1 => repeat (first | exact (Kd.C_below HR0.out HB.out) | (with_reducible refine Kd.C_alloc ?_ _) | (with_reducible refine Kd.C_drewN ?_ _) | (with_reducible refine Kd.C_drew ?_))); (case side2 => exact HC0.out); rintro e w14 ⟨v170, rfl, ho0, hb⟩; refine ⟨_, rfl, ?_⟩; have n0_ := Aside0.mk (Kd.R_lower ho0 (below_size (by repeat (first | (with_reducible first | exact HB.out | apply below_alloc | apply pw_below_drewN | apply below_drew1) | exact HB.out)))); have n1_ := Aside0.mk (below_step (by repeat (first | (with_reducible first | exact HB.out | apply below_alloc | apply pw_below_drewN | apply below_drew1) | exact HB.out)) hb); clear HB; have HO171 := n0_; have HB := n1_; clear n0_ n1_; (try clear hb); (try clear hb2); (try clear hk); (try clear hi); (try clear ho0)) | ((with_reducible refine gate_dst (N := 6) rfl ?_); (try (refine gate_guard (by rfl) ?_; dsimp only)); refine box_event ?hg (N := 6) ?hd (cs := #[.int .u32 0, .int .u32 0, .int .u32 0, .slice none 0 0, .int .i64 0]) (t := 72) ?hr ?_; (case hd => rfl); (case hg => rfl); (case hr => first | (go_simp; done) | (go_simp; rfl)); intro gb174 hg w15 hbox hb; have n0_ := Aside0.mk (Kd.R_below (by (with_reducible repeat (first | apply Kd.R_alloc | apply Kd.R_drewN | apply Kd.R_drew)); exact HO171.out) hb); have n1_ := Aside0.mk (below_step (by repeat (first | (with_reducible first | exact HB.out | apply below_alloc | apply pw_below_drewN | apply below_drew1) | exact HB.out)) hb); have n2_ := Aside0.mk (hbox); have n3_ := Aside0.mk ((by rw [hg]; exact (below_size (by repeat (first | (with_reducible first | exact HB.out | apply below_alloc | apply pw_below_drewN | apply below_drew1) | exact HB.out))) : w.heap.size ≤ gb174)); have n4_ := Aside0.mk ((by rw [hg]; exact (below_size (by repeat (first | (with_reducible first | exact HB.out | apply below_alloc | apply pw_below_drewN | apply below_drew1) | exact HB.out))) : w.heap.size ≤ gb174)); clear HO171; clear HB; have HO171 := n0_; have HB := n1_; have BK174 := n2_; have GW174 := n3_; have GE174 := n4_; clear n0_ n1_ n2_ n3_ n4_; clear hb hbox hg; have hcz16_0 : w15.cell? ⟨gb174, 0, none⟩ = some (.int .u32 0) := (blk_cell BK174.out 0).trans rfl; have hcz16_1 : w15.cell? ⟨gb174, 1, none⟩ = some (.int .u32 0) := (blk_cell BK174.out 1).trans rfl; have hcz16_2 : w15.cell? ⟨gb174, 2, none⟩ = some (.int .u32 0) := (blk_cell BK174.out 2).trans rfl; have hcz16_3 : w15.cell? ⟨gb174, 3, none⟩ = some (.slice none 0 0) := (blk_cell BK174.out 3).trans rfl; have hcz16_4 : w15.cell? ⟨gb174, 4, none⟩ = some (.int .i64 0) := (blk_cell BK174.out 4).trans rfl; have hfz16_0 := blk_frozen BK174.out 0; have hfz16_1 := blk_frozen BK174.out 1; have hfz16_2 := blk_frozen BK174.out 2; have hfz16_3 := blk_frozen BK174.out 3; have hfz16_4 := blk_frozen BK174.out 4; obtain ⟨Ao17, co17, eo17⟩ := Kd.R_slice HO171.out; subst eo17) | ((with_reducible refine gate_callee (f := 34) rfl ?_); refine goesL_ (some 44) rfl rfl Try.func34 (by kernel_rfl) rfl #[] rfl (by (try simp only [List.map_toArray, List.map_cons, List.map_nil]); first | done | rfl | (simp only [List.length_drop, List.length_take]; rfl)) ?_; (with_reducible refine (encoder_New.calls  t175 t176 t177 _ A12.out).mono ?_); rintro e w18 ⟨v178, rfl, ho0, hb⟩; refine ⟨_, rfl, ?_⟩; have n0_ := Aside0.mk (Kd.R_elder' (by (with_reducible repeat (first | apply Kd.R_alloc | apply Kd.R_drewN | apply Kd.R_drew)); exact (Kd.R_mono (Kd.R_far (p := ⟨gb174, 4, none⟩) (Kd.R_far (p := ⟨gb174, 3, none⟩) (Kd.R_far (p := ⟨gb174, 2, none⟩) (Kd.R_far (p := ⟨gb174, 1, none⟩) (Kd.R_far (p := ⟨gb174, 0, none⟩) (Kd.R_types HO171.out BK174.out (by decide)) (fun _ hk => hk.2) (.int .u32 t166)) (fun _ hk => hk.2) (.int .u32 t167)) (fun _ hk => hk.2) (.int .u32 t168)) (fun _ hk => hk.2) (.slice Ao17 t169.length co17)) (fun _ hk => hk.2) (.int .i64 t172)) (fun _ h_ => h_.1))) (Kd.R_base ho0) hb); have n1_ := Aside0.mk (Kd.R_lower (Kd.R_new' ho0 (Kd.R_lt (by (with_reducible repeat (first | apply Kd.R_alloc | apply Kd.R_drewN | apply Kd.R_drew)); exact (Kd.R_mono (Kd.R_far (p := ⟨gb174, 4, none⟩) (Kd.R_far (p := ⟨gb174, 3, none⟩) (Kd.R_far (p := ⟨gb174, 2, none⟩) (Kd.R_far (p := ⟨gb174, 1, none⟩) (Kd.R_far (p := ⟨gb174, 0, none⟩) (Kd.R_types HO171.out BK174.out (by decide)) (fun _ hk => hk.2) (.int .u32 t166)) (fun _ hk => hk.2) (.int .u32 t167)) (fun _ hk => hk.2) (.int .u32 t168)) (fun _ hk => hk.2) (.slice Ao17 t169.length co17)) (fun _ hk => hk.2) (.int .i64 t172)) (fun _ h_ => h_.1))))) (below_size (by repeat (first | (with_reducible first | exact HB.out | apply below_alloc | apply pw_below_drewN | apply below_drew1 | refine below_set ?_ GE174.out) | exact HB.out)))); have n2_ := Aside0.mk (blk_below (g := gb174) (o := .cells #[.int .u32 t166, .int .u32 t167, .int .u32 t168, .slice Ao17 t169.length co17, .int .i64 t172] 72 (0, 0)) (by (with_reducible repeat (first | refine blk_drewN ?_ _ | refine blk_drew ?_ | refine blk_alloc ?_ _)); refine blk_put (cs := #[.int .u32 t166, .int .u32 t167, .int .u32 t168, .slice Ao17 t169.length co17, .int .i64 0]) ?_ 4 _ rfl; (with_reducible repeat (first | refine blk_drewN ?_ _ | refine blk_drew ?_ | refine blk_alloc ?_ _)); refine blk_put (cs := #[.int .u32 t166, .int .u32 t167, .int .u32 t168, .slice none 0 0, .int .i64 0]) ?_ 3 _ rfl; (with_reducible repeat (first | refine blk_drewN ?_ _ | refine blk_drew ?_ | refine blk_alloc ?_ _)); refine blk_put (cs := #[.int .u32 t166, .int .u32 t167, .int .u32 0, .slice none 0 0, .int .i64 0]) ?_ 2 _ rfl; (with_reducible repeat (first | refine blk_drewN ?_ _ | refine blk_drew ?_ | refine blk_alloc ?_ _)); refine blk_put (cs := #[.int .u32 t166, .int .u32 0, .int .u32 0, .slice none 0 0, .int .i64 0]) ?_ 1 _ rfl; (with_reducible repeat (first | refine blk_drewN ?_ _ | refine blk_drew ?_ | refine blk_alloc ?_ _)); refine blk_put (cs := #[.int .u32 0, .int .u32 0, .int .u32 0, .slice none 0 0, .int .i64 0]) ?_ 0 _ rfl; (with_reducible repeat (first | refine blk_drewN ?_ _ | refine blk_drew ?_ | refine blk_alloc ?_ _)); exact BK174.out) hb); have n3_ := Aside0.mk (below_step (by repeat (first | (with_reducible first | exact HB.out | apply below_alloc | apply pw_below_drewN | apply below_drew1 | refine below_set ?_ GE174.out) | exact HB.out)) hb); clear HO171; clear BK174; clear HB; have HO171 := n0_; have HO179 := n1_; have BK174 := n2_; have HB := n3_; clear n0_ n1_ n2_ n3_; (try clear hb); (try clear hb2); (try clear hk); (try clear hi); (try clear ho0)) | ((with_reducible refine gate_dst (N := 8) rfl ?_); (try (refine gate_guard (by rfl) ?_; dsimp only)); refine box_event ?hg (N := 8) ?hd (cs := #[.int .u32 0, .int .u32 0, .slice none 0 0]) (t := 42) ?hr ?_; (case hd => rfl); (case hg => rfl); (case hr => first | (go_simp; done) | (go_simp; rfl)); intro gb180 hg w19 hbox hb; have n0_ := Aside0.mk (Kd.R_below (by (with_reducible repeat (first | apply Kd.R_alloc | apply Kd.R_drewN | apply Kd.R_drew)); exact HO171.out) hb); have n1_ := Aside0.mk (Kd.R_below (by (with_reducible repeat (first | apply Kd.R_alloc | apply Kd.R_drewN | apply Kd.R_drew)); exact HO179.out) hb); have n2_ := Aside0.mk (blk_below (g := gb174) (o := .cells #[.int .u32 t166, .int .u32 t167, .int .u32 t168, .slice Ao17 t169.length co17, .int .i64 t172] 72 (0, 0)) (by (with_reducible repeat (first | refine blk_drewN ?_ _ | refine blk_drew ?_ | refine blk_alloc ?_ _)); exact BK174.out) hb); have n3_ := Aside0.mk (below_step (by repeat (first | (with_reducible first | exact HB.out | apply below_alloc | apply pw_below_drewN | apply below_drew1 | refine below_set ?_ GE174.out) | exact HB.out)) hb); have n4_ := Aside0.mk (hbox); have n5_ := Aside0.mk ((by rw [hg]; exact (below_size (by repeat (first | (with_reducible first | exact HB.out | apply below_alloc | apply pw_below_drewN | apply below_drew1 | refine below_set ?_ GE174.out) | exact HB.out))) : w.heap.size ≤ gb180)); have n6_ := Aside0.mk ((by rw [hg]; exact (below_size (by repeat (first | (with_reducible first | exact HB.out | apply below_alloc | apply pw_below_drewN | apply below_drew1 | refine below_set ?_ GE174.out) | exact HB.out))) : w.heap.size ≤ gb180)); have n7_ := Aside0.mk ((by rw [hg]; exact Nat.ne_of_lt (blk_lt (g := gb174) (o := .cells #[.int .u32 t166, .int .u32 t167, .int .u32 t168, .slice Ao17 t169.length co17, .int .i64 t172] 72 (0, 0)) (by (with_reducible repeat (first | refine blk_drewN ?_ _ | refine blk_drew ?_ | refine blk_alloc ?_ _)); exact BK174.out)) : gb174 ≠ gb180)); have n8_ := Aside0.mk ((by rw [hg]; exact Nat.ne_of_gt (blk_lt (g := gb174) (o := .cells #[.int .u32 t166, .int .u32 t167, .int .u32 t168, .slice Ao17 t169.length co17, .int .i64 t172] 72 (0, 0)) (by (with_reducible repeat (first | refine blk_drewN ?_ _ | refine blk_drew ?_ | refine blk_alloc ?_ _)); exact BK174.out)) : gb180 ≠ gb174)); clear HO171; clear HO179; clear BK174; clear HB; have HO171 := n0_; have HO179 := n1_; have BK174 := n2_; have HB := n3_; have BK180 := n4_; have GW180 := n5_; have GE180 := n6_; have NB174_180 := n7_; have NB180_174 := n8_; clear n0_ n1_ n2_ n3_ n4_ n5_ n6_ n7_ n8_; clear hb hbox hg; have hnb20 := NB180_174.out; have hnc20 := NB174_180.out; have hcz21_0 : w19.cell? ⟨gb180, 0, none⟩ = some (.int .u32 0) := (blk_cell BK180.out 0).trans rfl; have hcz21_1 : w19.cell? ⟨gb180, 1, none⟩ = some (.int .u32 0) := (blk_cell BK180.out 1).trans rfl; have hcz21_2 : w19.cell? ⟨gb180, 2, none⟩ = some (.slice none 0 0) := (blk_cell BK180.out 2).trans rfl; have hfz21_0 := blk_frozen BK180.out 0; have hfz21_1 := blk_frozen BK180.out 1; have hfz21_2 := blk_frozen BK180.out 2; obtain ⟨Ao22, co22, eo22⟩ := Kd.R_slice HO179.out; subst eo22))
          go_loopg [9] kj3 (fun kq v9 w' => ∃ (x9_2 : Int) (x175000_2 : Int) (x175001_2 : Int) (x175002_2 : Int) (x175003_2 : List Int) (x175004_2 : Int) (x181000_2 : Int) (x181001_2 : Int) (x181002_2 : List Int) (u175003 : Value) (u181002 : Value), v9 = .int .i64 x9_2 ∧ Aside0 (bitloftlaw21_DecoderRange.l0 kq l0 l1 t164 x9_2 x175000_2 x175001_2 x175002_2 x175003_2 x175004_2 x181000_2 x181001_2 x181002_2 = some r) ∧ Aside0 (kq ≤ kj3) ∧ Aside0 (Kd.R (Kd.int .u8) 5 w' w.heap.size (fun k_ => some k_ ≠ (u181002 : Value).ownBlock) u175003 x175003_2) ∧ Aside0 (Kd.R (Kd.int .u8) 5 w' w.heap.size (fun k_ => some k_ ≠ (u175003 : Value).ownBlock) u181002 x181002_2) ∧ Aside0 (w'.heap[gb174]? = some (.cells #[.int .u32 x175000_2, .int .u32 x175001_2, .int .u32 x175002_2, u175003, .int .i64 x175004_2] 72 (0, 0))) ∧ Aside0 (w'.heap[gb180]? = some (.cells #[.int .u32 x181000_2, .int .u32 x181001_2, u181002] 42 (0, 0))) ∧ Aside0 (Below w.heap.size w w'))
          case atStart => exact ⟨(0), (t166), (t167), (t168), (t169), (t172), (t175), (t176), (t177), (.slice Ao17 t169.length co17), (.slice Ao22 t177.length co22), (by first | rfl | (simp; done) | (simp [*]; done)), H', ⟨Nat.le_refl _⟩, ⟨by (with_reducible repeat (first | apply Kd.R_alloc | apply Kd.R_drewN | apply Kd.R_drew)); exact Kd.R_mono (Kd.R_far (p := ⟨gb180, 2, none⟩) (Kd.R_far (p := ⟨gb180, 1, none⟩) (Kd.R_far (p := ⟨gb180, 0, none⟩) (Kd.R_types HO171.out BK180.out (by decide)) (fun _ hk => hk.2) (.int .u32 t175)) (fun _ hk => hk.2) (.int .u32 t176)) (fun _ hk => hk.2) (.slice Ao22 t177.length co22)) (fun _ hk => hk.1.2)⟩, ⟨by (with_reducible repeat (first | apply Kd.R_alloc | apply Kd.R_drewN | apply Kd.R_drew)); exact Kd.R_mono (Kd.R_far (p := ⟨gb180, 2, none⟩) (Kd.R_far (p := ⟨gb180, 1, none⟩) (Kd.R_far (p := ⟨gb180, 0, none⟩) (Kd.R_types HO179.out BK180.out (by decide)) (fun _ hk => hk.2) (.int .u32 t175)) (fun _ hk => hk.2) (.int .u32 t176)) (fun _ hk => hk.2) (.slice Ao22 t177.length co22)) (fun _ hk => hk.1.2)⟩, ⟨by (with_reducible repeat (first | refine blk_drewN ?_ _ | refine blk_drew ?_ | refine blk_alloc ?_ _)); refine blk_far ?_ NB174_180.out _; (with_reducible repeat (first | refine blk_drewN ?_ _ | refine blk_drew ?_ | refine blk_alloc ?_ _)); refine blk_far ?_ NB174_180.out _; (with_reducible repeat (first | refine blk_drewN ?_ _ | refine blk_drew ?_ | refine blk_alloc ?_ _)); refine blk_far ?_ NB174_180.out _; (with_reducible repeat (first | refine blk_drewN ?_ _ | refine blk_drew ?_ | refine blk_alloc ?_ _)); exact BK174.out⟩, ⟨by (with_reducible repeat (first | refine blk_drewN ?_ _ | refine blk_drew ?_ | refine blk_alloc ?_ _)); refine blk_put (cs := #[.int .u32 t175, .int .u32 t176, .slice none 0 0]) ?_ 2 _ rfl; (with_reducible repeat (first | refine blk_drewN ?_ _ | refine blk_drew ?_ | refine blk_alloc ?_ _)); refine blk_put (cs := #[.int .u32 t175, .int .u32 0, .slice none 0 0]) ?_ 1 _ rfl; (with_reducible repeat (first | refine blk_drewN ?_ _ | refine blk_drew ?_ | refine blk_alloc ?_ _)); refine blk_put (cs := #[.int .u32 0, .int .u32 0, .slice none 0 0]) ?_ 0 _ rfl; (with_reducible repeat (first | refine blk_drewN ?_ _ | refine blk_drew ?_ | refine blk_alloc ?_ _)); exact BK180.out⟩, ⟨by repeat (first | (with_reducible first | exact HB.out | apply below_alloc | apply pw_below_drewN | apply below_drew1 | refine below_set ?_ GE174.out | refine below_set ?_ GE180.out) | exact HB.out)⟩⟩
          case round =>
            clear H'
            try clear c1
            try clear c2
            try clear p2
            try clear c3
            try clear c4
            try clear c5
            try clear c6
            try clear c6b0
            try clear c6b1
            try clear c7
            try clear c7b0
            try clear c7b1
            try clear c9
            try clear c9b0
            try clear c9b1
            try clear c10
            try clear c13
            try clear c13b0
            try clear c13b1
            try clear c17
            try clear c20
            try clear hcz16_0
            try clear hcz16_1
            try clear hcz16_2
            try clear hcz16_3
            try clear hcz16_4
            try clear hcz21_0
            try clear hcz21_1
            try clear hcz21_2
            try clear hfz16_0
            try clear hfz16_1
            try clear hfz16_2
            try clear hfz16_3
            try clear hfz16_4
            try clear hfz21_0
            try clear hfz21_1
            try clear hfz21_2
            try clear p2
            obtain ⟨x9_2, x175000_2, x175001_2, x175002_2, x175003_2, x175004_2, x181000_2, x181001_2, x181002_2, u175003, u181002, rfl, HA, HK2, HO_175003, HO_181002, BK174, BK180, HB⟩ := hrel
            cases gk with
            | zero => exact absurd HA.out (by simp [bitloftlaw21_DecoderRange.l0])
            | succ k2 =>
              have H := HA.out
              clear HA
              simp only [bitloftlaw21_DecoderRange.l0] at H
              by_cases c23 : x9_2 < (l1.length : Int)
              · rw [if_pos c23] at H
                have c23b0 : decide (x9_2 < (l1.length : Int)) = true := decide_eq_true c23
                clear c23
                by_cases c24 : 0 ≤ x9_2
                · rw [if_pos c24] at H
                  have c24b0 : decide (0 ≤ x9_2) = true := decide_eq_true c24
                  clear c24
                  replace H := Option.bind_eq_some_iff.mp H
                  obtain ⟨⟨t182, t183, t184, t185, t188, t189, t190⟩, A250, H⟩ := H
                  replace H : ((encoder_Put.f k2 x181000_2 x181001_2 x181002_2 (rd l1 x9_2) t189).bind fun bt193 => (if t190 = 0 then (if bt193.2.2.2 = 0 then ((bitloftref21_Check.f k2 t182 t183 t184 t185 t188).bind fun t200 => (if t200 = 0 then (if t182 = bt193.1 then (if t183 = bt193.2.1 then (if t188 = (wrap64 ((bt193.2.2.1.length : Int) + 4)) then (bitloftlaw21_DecoderRange.l0 k2 l0 l1 t164 (wrap64 (x9_2 + 1)) t182 t183 t184 t185 t188 bt193.1 bt193.2.1 bt193.2.2.1) else (none)) else (none)) else (none)) else (none))) else (none)) else (none))) = some r := H
                  have A25 := Aside0.mk A250
                  clear A250
                  replace H := Option.bind_eq_some_iff.mp H
                  obtain ⟨⟨t193, t194, t195, t198⟩, A260, H⟩ := H
                  replace H : (if t190 = 0 then (if t198 = 0 then ((bitloftref21_Check.f k2 t182 t183 t184 t185 t188).bind fun t200 => (if t200 = 0 then (if t182 = t193 then (if t183 = t194 then (if t188 = (wrap64 ((t195.length : Int) + 4)) then (bitloftlaw21_DecoderRange.l0 k2 l0 l1 t164 (wrap64 (x9_2 + 1)) t182 t183 t184 t185 t188 t193 t194 t195) else (none)) else (none)) else (none)) else (none))) else (none)) else (none)) = some r := H
                  have A26 := Aside0.mk A260
                  clear A260
                  by_cases c27 : t190 = 0
                  · rw [if_pos c27] at H
                    have c27b0 : (t190 == 0) = true := beq_iff_eq.mpr c27
                    have c27b1 : (t190 != 0) = false := bne_eq_false_iff_eq.mpr c27
                    clear c27
                    by_cases c28 : t198 = 0
                    · rw [if_pos c28] at H
                      have c28b0 : (t198 == 0) = true := beq_iff_eq.mpr c28
                      have c28b1 : (t198 != 0) = false := bne_eq_false_iff_eq.mpr c28
                      clear c28
                      replace H := Option.bind_eq_some_iff.mp H
                      obtain ⟨t200, A290, H⟩ := H
                      replace H : (if t200 = 0 then (if t182 = t193 then (if t183 = t194 then (if t188 = (wrap64 ((t195.length : Int) + 4)) then (bitloftlaw21_DecoderRange.l0 k2 l0 l1 t164 (wrap64 (x9_2 + 1)) t182 t183 t184 t185 t188 t193 t194 t195) else (none)) else (none)) else (none)) else (none)) = some r := H
                      have A29 := Aside0.mk A290
                      clear A290
                      by_cases c30 : t200 = 0
                      · rw [if_pos c30] at H
                        have c30b0 : (t200 == 0) = true := beq_iff_eq.mpr c30
                        have c30b1 : (t200 != 0) = false := bne_eq_false_iff_eq.mpr c30
                        clear c30
                        by_cases c31 : t182 = t193
                        · rw [if_pos c31] at H
                          have c31b0 : (t182 == t193) = true := beq_iff_eq.mpr c31
                          have c31b1 : (t182 != t193) = false := bne_eq_false_iff_eq.mpr c31
                          clear c31
                          by_cases c32 : t183 = t194
                          · rw [if_pos c32] at H
                            have c32b0 : (t183 == t194) = true := beq_iff_eq.mpr c32
                            have c32b1 : (t183 != t194) = false := bne_eq_false_iff_eq.mpr c32
                            clear c32
                            by_cases c33 : t188 = (wrap64 ((t195.length : Int) + 4))
                            · rw [if_pos c33] at H
                              have c33b0 : (t188 == (wrap64 ((t195.length : Int) + 4))) = true := beq_iff_eq.mpr c33
                              have c33b1 : (t188 != (wrap64 ((t195.length : Int) + 4))) = false := bne_eq_false_iff_eq.mpr c33
                              clear c33
                              have H' := Aside0.mk H
                              clear H
                              obtain ⟨Ao34, co34, eo34⟩ := Kd.R_slice HO_175003.out
                              subst eo34
                              try go_wp2
                              have n0_ := Aside0.mk (Kd.R_drew HO_175003.out)
                              have n1_ := Aside0.mk (Kd.R_drew HO_181002.out)
                              have n2_ := Aside0.mk (blk_drew BK174.out)
                              have n3_ := Aside0.mk (blk_drew BK180.out)
                              have n4_ := Aside0.mk (below_drew1 HB.out)
                              clear HO_175003
                              clear HO_181002
                              clear BK174
                              clear BK180
                              clear HB
                              have HO_175003 := n0_
                              have HO_181002 := n1_
                              have BK174 := n2_
                              have BK180 := n3_
                              have HB := n4_
                              clear n0_ n1_ n2_ n3_ n4_
                              have p181 : 0 ≤ (x9_2 : Int) := of_decide_eq_true (by first | (with_reducible assumption) | assumption)
                              have q181 : x9_2 < (l1.length : Int) := of_decide_eq_true (by first | (with_reducible assumption) | assumption)
                              obtain ⟨ad181, e181, hx181_0⟩ := Kd.at_int HR1.out x9_2 p181 q181
                              have hw181_0 := hx181_0
                              cases e181
                              replace hx181_0 := (HB.out.cell (World.block_lt_of_cell? w _ hx181_0)).trans hx181_0
                              replace p181 := eq_true p181
                              replace q181 := eq_true q181
                              refine start_ (n := 14) (S := fun w' => w'.cell? ⟨gb174, 0, none⟩ = some (.int .u32 x175000_2) ∧ w'.cell? ⟨gb174, 1, none⟩ = some (.int .u32 x175001_2) ∧ w'.cell? ⟨gb174, 2, none⟩ = some (.int .u32 x175002_2) ∧ w'.cell? ⟨gb174, 3, none⟩ = some (.slice Ao34 x175003_2.length co34) ∧ w'.cell? ⟨gb174, 4, none⟩ = some (.int .i64 x175004_2) ∧ w'.cell? (ad181.add (x9_2).toNat) = some (.int .i64 (rd l1 x9_2))) (ds := []) #[false, false, false, false, false, false, false, false, false, false, false, false, false, false] (by kernel_rfl) rfl rfl ⟨(blk_cell BK174.out 0).trans rfl, (blk_cell BK174.out 1).trans rfl, (blk_cell BK174.out 2).trans rfl, (blk_cell BK174.out 3).trans rfl, (blk_cell BK174.out 4).trans rfl, ((HB.out.cell (World.block_lt_of_cell? w _ hw181_0)).trans hw181_0)⟩ (fun hHeld => ?_); refine with_tabW bitloftlaw21_DecoderRange.tab11 bitloftlaw21_DecoderRange.bits11 (fun HT_ HW_ => ?_)
                              generalize wr.drew = w35 at HO_175003 HO_181002 BK174 BK180 HB hx181_0 hHeld ⊢
                              refine pure_ (i := 1) (N := some 55) (v := ?_) (a' := ?_) #[false, true, false, false, false, false, false, false, false, false, false, false, false, false] rfl rfl (any_of HT_.out (by kernel_rfl)) (fun _ _ _ h => h) (Or.inl ⟨by rfl, ?_⟩) ?_ ?_
                              rotate_left
                              · intro w'
                                go_simp
                                with_reducible rfl
                              rotate_left
                              · simp only [Act.put, List.setIfInBounds_toArray, List.set_cons_zero, List.set_cons_succ, i64_w, i32_w]
                                rfl
                              refine pure_ (i := 2) (N := some 56) (v := ?_) (a' := ?_) #[false, true, true, false, false, false, false, false, false, false, false, false, false, false] rfl rfl (any_of HT_.out (by kernel_rfl)) (fun _ _ _ h => h) (Or.inl ⟨by rfl, ?_⟩) ?_ ?_
                              rotate_left
                              · intro w'
                                go_simp
                                with_reducible rfl
                              rotate_left
                              · simp only [Act.put, List.setIfInBounds_toArray, List.set_cons_zero, List.set_cons_succ, i64_w, i32_w]
                                rfl
                              refine pure_ (i := 3) (N := some 57) (v := ?_) (a' := ?_) #[false, true, true, true, false, false, false, false, false, false, false, false, false, false] rfl rfl (any_of HT_.out (by kernel_rfl)) (fun _ _ _ h => h) (Or.inl ⟨by rfl, ?_⟩) ?_ ?_
                              rotate_left
                              · intro w'
                                go_simp
                                with_reducible rfl
                              rotate_left
                              · simp only [Act.put, List.setIfInBounds_toArray, List.set_cons_zero, List.set_cons_succ, i64_w, i32_w]
                                rfl
                              refine take_ (i := 0) (N := some 54) (v := ?_) (a' := ?_) #[true, true, true, true, false, false, false, false, false, false, false, false, false, false] rfl rfl (take_ofW HT_.out HW_.out (by kernel_rfl)) (fun _ _ _ h => h) (Or.inl ⟨by rfl, ?_⟩) hHeld ?_ ?_
                              rotate_left
                              · rintro w' ⟨s0, s1, s2, s3, s4, s5⟩
                                go_simp
                                with_reducible rfl
                              rotate_left
                              · simp only [Act.put, List.setIfInBounds_toArray, List.set_cons_zero, List.set_cons_succ, i64_w, i32_w]
                                rfl
                              refine take_ (i := 4) (N := some 58) (v := ?_) (a' := ?_) #[true, true, true, true, true, false, false, false, false, false, false, false, false, false] rfl rfl (take_ofW HT_.out HW_.out (by kernel_rfl)) (fun _ _ _ h => h) (Or.inl ⟨by rfl, ?_⟩) hHeld ?_ ?_
                              rotate_left
                              · rintro w' ⟨s0, s1, s2, s3, s4, s5⟩
                                go_simp
                                with_reducible rfl
                              rotate_left
                              · simp only [Act.put, List.setIfInBounds_toArray, List.set_cons_zero, List.set_cons_succ, i64_w, i32_w]
                                rfl
                              refine join_ (σ := Value × Nat) 3 #[true, true, true, true, true, true, true, true, true, true, true, false, false, false] (fun s_ => [(59, .tuple #[.agg #[.int .u32 t182, .int .u32 t183, .int .u32 t184, s_.1, .int .i64 t188], .bool t189, .int .i64 t190]), (10, .pointer (some ⟨s_.2, 0, none⟩)), (53, .tuple #[.agg #[.int .u32 t182, .int .u32 t183, .int .u32 t184, s_.1, .int .i64 t188], .bool t189, .int .i64 t190]), (60, .agg #[.int .u32 t182, .int .u32 t183, .int .u32 t184, s_.1, .int .i64 t188]), (61, .bool t189), (62, .int .i64 t190)]) (fun s_ w' => (w'.cell? ⟨gb174, 0, none⟩ = some (.int .u32 x175000_2) ∧ w'.cell? ⟨gb174, 1, none⟩ = some (.int .u32 x175001_2) ∧ w'.cell? ⟨gb174, 2, none⟩ = some (.int .u32 x175002_2) ∧ w'.cell? ⟨gb174, 3, none⟩ = some (.slice Ao34 x175003_2.length co34) ∧ w'.cell? ⟨gb174, 4, none⟩ = some (.int .i64 x175004_2) ∧ w'.cell? (ad181.add (x9_2).toNat) = some (.int .i64 (rd l1 x9_2))) ∧ (Kd.R (Kd.int .u8) 5 w' w.heap.size (fun k_ => some k_ ≠ (.slice Ao34 x175003_2.length co34 : Value).ownBlock ∧ some k_ ≠ (u181002 : Value).ownBlock) s_.1 t185) ∧ (Kd.R (Kd.int .u8) 5 w' w.heap.size (fun k_ => some k_ ≠ (s_.1 : Value).ownBlock ∧ some k_ ≠ (u181002 : Value).ownBlock) (.slice Ao34 x175003_2.length co34) x175003_2) ∧ (Kd.R (Kd.int .u8) 5 w' w.heap.size (fun k_ => some k_ ≠ (s_.1 : Value).ownBlock ∧ some k_ ≠ (.slice Ao34 x175003_2.length co34 : Value).ownBlock) u181002 x181002_2) ∧ (w'.heap[gb174]? = some (.cells #[.int .u32 x175000_2, .int .u32 x175001_2, .int .u32 x175002_2, .slice Ao34 x175003_2.length co34, .int .i64 x175004_2] 72 (0, 0))) ∧ (w'.heap[gb180]? = some (.cells #[.int .u32 x181000_2, .int .u32 x181001_2, u181002] 42 (0, 0))) ∧ (w'.heap[s_.2]? = some (.cells #[.int .u32 0, .int .u32 0, .int .u32 0, .slice none 0 0, .int .i64 0] 72 (0, 0))) ∧ (w.heap.size ≤ s_.2) ∧ (w.heap.size ≤ s_.2) ∧ (gb174 ≠ s_.2) ∧ (s_.2 ≠ gb174) ∧ (gb180 ≠ s_.2) ∧ (s_.2 ≠ gb180) ∧ (Below w.heap.size w w')) ?_ ?_
                              rotate_left
                              · intro hCont
                                refine two_ (i := 5) (j := 10) (Ni := some 59) (Nj := some 10) #[true, true, true, true, true, true, false, false, false, false, false, false, false, false] #[true, true, true, true, true, false, false, false, false, false, true, false, false, false] rfl rfl rfl rfl (two_of HT_.out (by kernel_rfl)) (by decide) (by decide) (fun K hK => ?_) (fun K hK => ?_)
                                · skip
                                  refine goes_ Try.func50 (by kernel_rfl) rfl #[.agg #[.int .u32 x175000_2, .int .u32 x175001_2, .int .u32 x175002_2, .slice Ao34 x175003_2.length co34, .int .i64 x175004_2], .int .i64 (rd l1 x9_2)] (by rfl) rfl rfl (by (try simp only [List.map_toArray, List.map_cons, List.map_nil]); first | done | rfl | (simp only [List.length_drop, List.length_take]; rfl)) ?_
                                  with_reducible refine (decoder_Get.calls k2 x175000_2 x175001_2 x175002_2 _ _ x175003_2 x175004_2 (rd l1 x9_2) t182 t183 t184 t185 t188 t189 t190 _ ?side1 ?side2 A25.out).mono ?_
                                  (case side1 => repeat (first | exact (Kd.R_reads' HO_175003.out).2.2 | (with_reducible refine Kd.C_alloc ?_ _) | (with_reducible refine Kd.C_drewN ?_ _) | (with_reducible refine Kd.C_drew ?_)))
                                  (case side2 => exact (Kd.R_reads' HO_175003.out).2.1)
                                  rintro e w36 ⟨v186, rfl, ho0, hb⟩
                                  refine ⟨_, rfl, ?_⟩
                                  have n0_ := Aside0.mk (Kd.R_elder' (by (with_reducible repeat (first | apply Kd.R_alloc | apply Kd.R_drewN | apply Kd.R_drew)); exact HO_175003.out) (Kd.R_base ho0) hb)
                                  have n1_ := Aside0.mk (Kd.R_elder' (by (with_reducible repeat (first | apply Kd.R_alloc | apply Kd.R_drewN | apply Kd.R_drew)); exact HO_181002.out) (Kd.R_base ho0) hb)
                                  have n2_ := Aside0.mk (Kd.R_lower (Kd.R_new' (Kd.R_new' ho0 (Kd.R_lt (by (with_reducible repeat (first | apply Kd.R_alloc | apply Kd.R_drewN | apply Kd.R_drew)); exact HO_175003.out))) (Kd.R_lt (by (with_reducible repeat (first | apply Kd.R_alloc | apply Kd.R_drewN | apply Kd.R_drew)); exact HO_181002.out))) (below_size (by repeat (first | (with_reducible first | exact HB.out | apply below_alloc | apply pw_below_drewN | apply below_drew1 | refine below_set ?_ GE174.out | refine below_set ?_ GE180.out) | exact HB.out))))
                                  have n3_ := Aside0.mk (blk_below (g := gb174) (o := .cells #[.int .u32 x175000_2, .int .u32 x175001_2, .int .u32 x175002_2, .slice Ao34 x175003_2.length co34, .int .i64 x175004_2] 72 (0, 0)) (by (with_reducible repeat (first | refine blk_drewN ?_ _ | refine blk_drew ?_ | refine blk_alloc ?_ _)); exact BK174.out) hb)
                                  have n4_ := Aside0.mk (blk_below (g := gb180) (o := .cells #[.int .u32 x181000_2, .int .u32 x181001_2, u181002] 42 (0, 0)) (by (with_reducible repeat (first | refine blk_drewN ?_ _ | refine blk_drew ?_ | refine blk_alloc ?_ _)); exact BK180.out) hb)
                                  have n5_ := Aside0.mk (below_step (by repeat (first | (with_reducible first | exact HB.out | apply below_alloc | apply pw_below_drewN | apply below_drew1 | refine below_set ?_ GE174.out | refine below_set ?_ GE180.out) | exact HB.out)) hb)
                                  clear HO_175003
                                  clear HO_181002
                                  clear BK174
                                  clear BK180
                                  clear HB
                                  have HO_175003 := n0_
                                  have HO_181002 := n1_
                                  have HO187 := n2_
                                  have BK174 := n3_
                                  have BK180 := n4_
                                  have HB := n5_
                                  clear n0_ n1_ n2_ n3_ n4_ n5_
                                  (try clear hb)
                                  (try clear hb2)
                                  (try clear hk)
                                  (try clear hi)
                                  (try clear ho0)
                                  refine hK.out _ _ ⟨(blk_cell BK174.out 0).trans rfl, (blk_cell BK174.out 1).trans rfl, (blk_cell BK174.out 2).trans rfl, (blk_cell BK174.out 3).trans rfl, (blk_cell BK174.out 4).trans rfl, ((HB.out.cell (World.block_lt_of_cell? w _ hw181_0)).trans hw181_0)⟩ (fun hHeld => ?_)
                                  clear hK K
                                  refine norm_ (a' := ?_) ?_ ?_
                                  rotate_left
                                  · show Act.put _ (some 59) _ = _
                                    simp only [Act.put, List.setIfInBounds_toArray, List.set_cons_zero, List.set_cons_succ, i64_w, i32_w]
                                    rfl
                                  refine pure_ (i := 6) (N := some 53) (v := ?_) (a' := ?_) #[true, true, true, true, true, true, true, false, false, false, false, false, false, false] rfl rfl (any_of HT_.out (by kernel_rfl)) (fun _ _ _ h => h) (Or.inl ⟨by rfl, ?_⟩) ?_ ?_
                                  rotate_left
                                  · intro w'
                                    go_simp
                                    with_reducible rfl
                                  rotate_left
                                  · simp only [Act.put, List.setIfInBounds_toArray, List.set_cons_zero, List.set_cons_succ, i64_w, i32_w]
                                    rfl
                                  refine pure_ (i := 7) (N := some 60) (v := ?_) (a' := ?_) #[true, true, true, true, true, true, true, true, false, false, false, false, false, false] rfl rfl (any_of HT_.out (by kernel_rfl)) (fun _ _ _ h => h) (Or.inl ⟨by rfl, ?_⟩) ?_ ?_
                                  rotate_left
                                  · intro w'
                                    go_simp
                                    with_reducible rfl
                                  rotate_left
                                  · simp only [Act.put, List.setIfInBounds_toArray, List.set_cons_zero, List.set_cons_succ, i64_w, i32_w]
                                    rfl
                                  refine pure_ (i := 8) (N := some 61) (v := ?_) (a' := ?_) #[true, true, true, true, true, true, true, true, true, false, false, false, false, false] rfl rfl (any_of HT_.out (by kernel_rfl)) (fun _ _ _ h => h) (Or.inl ⟨by rfl, ?_⟩) ?_ ?_
                                  rotate_left
                                  · intro w'
                                    go_simp
                                    with_reducible rfl
                                  rotate_left
                                  · simp only [Act.put, List.setIfInBounds_toArray, List.set_cons_zero, List.set_cons_succ, i64_w, i32_w]
                                    rfl
                                  refine pure_ (i := 9) (N := some 62) (v := ?_) (a' := ?_) #[true, true, true, true, true, true, true, true, true, true, false, false, false, false] rfl rfl (any_of HT_.out (by kernel_rfl)) (fun _ _ _ h => h) (Or.inl ⟨by rfl, ?_⟩) ?_ ?_
                                  rotate_left
                                  · intro w'
                                    go_simp
                                    with_reducible rfl
                                  rotate_left
                                  · simp only [Act.put, List.setIfInBounds_toArray, List.set_cons_zero, List.set_cons_succ, i64_w, i32_w]
                                    rfl
                                  refine one_ (i := 10) (N := some 10) #[true, true, true, true, true, true, true, true, true, true, true, false, false, false] rfl rfl (one_of HT_.out (by kernel_rfl)) (by decide) (fun K hK => ?_)
                                  refine box_step ?hg (N := 10) ?hd (cs := #[.int .u32 0, .int .u32 0, .int .u32 0, .slice none 0 0, .int .i64 0]) (t := 72) ?hr ?_; (case hd => rfl); (case hg => rfl); (case hr => first | (go_simp; done) | (go_simp; rfl))
                                  intro gb191 hg w37 hbox hb
                                  have n0_ := Aside0.mk (Kd.R_below (by (with_reducible repeat (first | apply Kd.R_alloc | apply Kd.R_drewN | apply Kd.R_drew)); exact HO_175003.out) hb)
                                  have n1_ := Aside0.mk (Kd.R_below (by (with_reducible repeat (first | apply Kd.R_alloc | apply Kd.R_drewN | apply Kd.R_drew)); exact HO_181002.out) hb)
                                  have n2_ := Aside0.mk (Kd.R_below (by (with_reducible repeat (first | apply Kd.R_alloc | apply Kd.R_drewN | apply Kd.R_drew)); exact HO187.out) hb)
                                  have n3_ := Aside0.mk (blk_below (g := gb174) (o := .cells #[.int .u32 x175000_2, .int .u32 x175001_2, .int .u32 x175002_2, .slice Ao34 x175003_2.length co34, .int .i64 x175004_2] 72 (0, 0)) (by (with_reducible repeat (first | refine blk_drewN ?_ _ | refine blk_drew ?_ | refine blk_alloc ?_ _)); exact BK174.out) hb)
                                  have n4_ := Aside0.mk (blk_below (g := gb180) (o := .cells #[.int .u32 x181000_2, .int .u32 x181001_2, u181002] 42 (0, 0)) (by (with_reducible repeat (first | refine blk_drewN ?_ _ | refine blk_drew ?_ | refine blk_alloc ?_ _)); exact BK180.out) hb)
                                  have n5_ := Aside0.mk (below_step (by repeat (first | (with_reducible first | exact HB.out | apply below_alloc | apply pw_below_drewN | apply below_drew1 | refine below_set ?_ GE174.out | refine below_set ?_ GE180.out) | exact HB.out)) hb)
                                  have n6_ := Aside0.mk (hbox)
                                  have n7_ := Aside0.mk ((by rw [hg]; exact (below_size (by repeat (first | (with_reducible first | exact HB.out | apply below_alloc | apply pw_below_drewN | apply below_drew1 | refine below_set ?_ GE174.out | refine below_set ?_ GE180.out) | exact HB.out))) : w.heap.size ≤ gb191))
                                  have n8_ := Aside0.mk ((by rw [hg]; exact (below_size (by repeat (first | (with_reducible first | exact HB.out | apply below_alloc | apply pw_below_drewN | apply below_drew1 | refine below_set ?_ GE174.out | refine below_set ?_ GE180.out) | exact HB.out))) : w.heap.size ≤ gb191))
                                  have n9_ := Aside0.mk ((by rw [hg]; exact Nat.ne_of_lt (blk_lt (g := gb174) (o := .cells #[.int .u32 x175000_2, .int .u32 x175001_2, .int .u32 x175002_2, .slice Ao34 x175003_2.length co34, .int .i64 x175004_2] 72 (0, 0)) (by (with_reducible repeat (first | refine blk_drewN ?_ _ | refine blk_drew ?_ | refine blk_alloc ?_ _)); exact BK174.out)) : gb174 ≠ gb191))
                                  have n10_ := Aside0.mk ((by rw [hg]; exact Nat.ne_of_gt (blk_lt (g := gb174) (o := .cells #[.int .u32 x175000_2, .int .u32 x175001_2, .int .u32 x175002_2, .slice Ao34 x175003_2.length co34, .int .i64 x175004_2] 72 (0, 0)) (by (with_reducible repeat (first | refine blk_drewN ?_ _ | refine blk_drew ?_ | refine blk_alloc ?_ _)); exact BK174.out)) : gb191 ≠ gb174))
                                  have n11_ := Aside0.mk ((by rw [hg]; exact Nat.ne_of_lt (blk_lt (g := gb180) (o := .cells #[.int .u32 x181000_2, .int .u32 x181001_2, u181002] 42 (0, 0)) (by (with_reducible repeat (first | refine blk_drewN ?_ _ | refine blk_drew ?_ | refine blk_alloc ?_ _)); exact BK180.out)) : gb180 ≠ gb191))
                                  have n12_ := Aside0.mk ((by rw [hg]; exact Nat.ne_of_gt (blk_lt (g := gb180) (o := .cells #[.int .u32 x181000_2, .int .u32 x181001_2, u181002] 42 (0, 0)) (by (with_reducible repeat (first | refine blk_drewN ?_ _ | refine blk_drew ?_ | refine blk_alloc ?_ _)); exact BK180.out)) : gb191 ≠ gb180))
                                  clear HO_175003
                                  clear HO_181002
                                  clear HO187
                                  clear BK174
                                  clear BK180
                                  clear HB
                                  have HO_175003 := n0_
                                  have HO_181002 := n1_
                                  have HO187 := n2_
                                  have BK174 := n3_
                                  have BK180 := n4_
                                  have HB := n5_
                                  have BK191 := n6_
                                  have GW191 := n7_
                                  have GE191 := n8_
                                  have NB174_191 := n9_
                                  have NB191_174 := n10_
                                  have NB180_191 := n11_
                                  have NB191_180 := n12_
                                  clear n0_ n1_ n2_ n3_ n4_ n5_ n6_ n7_ n8_ n9_ n10_ n11_ n12_
                                  clear hb hbox hg
                                  refine hK.out _ _ ⟨(blk_cell BK174.out 0).trans rfl, (blk_cell BK174.out 1).trans rfl, (blk_cell BK174.out 2).trans rfl, (blk_cell BK174.out 3).trans rfl, (blk_cell BK174.out 4).trans rfl, ((HB.out.cell (World.block_lt_of_cell? w _ hw181_0)).trans hw181_0)⟩ (fun hHeld => ?_)
                                  clear hK K
                                  refine norm_ (a' := ?_) ?_ ?_
                                  rotate_left
                                  · show Act.put _ (some 10) _ = _
                                    simp only [Act.put, List.setIfInBounds_toArray, List.set_cons_zero, List.set_cons_succ, i64_w, i32_w]
                                    rfl
                                  exact norm_ (by simp only [putAll, Act.put, List.setIfInBounds_toArray, List.set_cons_zero, List.set_cons_succ]) (hCont (v186, gb191) _ ⟨hHeld, (by (with_reducible repeat (first | apply Kd.R_alloc | apply Kd.R_drewN | apply Kd.R_drew)); exact Kd.R_mono HO187.out (fun _ hk => by first | exact ⟨hk.1.2, hk.2⟩ | exact hk | exact hk.1 | exact hk.2 | exact hk.1.1 | exact hk.1.2)), (by (with_reducible repeat (first | apply Kd.R_alloc | apply Kd.R_drewN | apply Kd.R_drew)); exact Kd.R_mono HO_175003.out (fun _ hk => ⟨hk.2, hk.1⟩)), (by (with_reducible repeat (first | apply Kd.R_alloc | apply Kd.R_drewN | apply Kd.R_drew)); exact Kd.R_mono HO_181002.out (fun _ hk => ⟨hk.2, hk.1⟩)), (by (with_reducible repeat (first | refine blk_drewN ?_ _ | refine blk_drew ?_ | refine blk_alloc ?_ _)); exact BK174.out), (by (with_reducible repeat (first | refine blk_drewN ?_ _ | refine blk_drew ?_ | refine blk_alloc ?_ _)); exact BK180.out), (by (with_reducible repeat (first | refine blk_drewN ?_ _ | refine blk_drew ?_ | refine blk_alloc ?_ _)); exact BK191.out), GW191.out, GE191.out, NB174_191.out, NB191_174.out, NB180_191.out, NB191_180.out, (by repeat (first | (with_reducible first | exact HB.out | apply below_alloc | apply pw_below_drewN | apply below_drew1 | refine below_set ?_ GE174.out | refine below_set ?_ GE180.out | refine below_set ?_ GE191.out) | exact HB.out))⟩)
                                · skip
                                  refine box_step ?hg (N := 10) ?hd (cs := #[.int .u32 0, .int .u32 0, .int .u32 0, .slice none 0 0, .int .i64 0]) (t := 72) ?hr ?_; (case hd => rfl); (case hg => rfl); (case hr => first | (go_simp; done) | (go_simp; rfl))
                                  intro gb191 hg w36 hbox hb
                                  have n0_ := Aside0.mk (Kd.R_below (by (with_reducible repeat (first | apply Kd.R_alloc | apply Kd.R_drewN | apply Kd.R_drew)); exact HO_175003.out) hb)
                                  have n1_ := Aside0.mk (Kd.R_below (by (with_reducible repeat (first | apply Kd.R_alloc | apply Kd.R_drewN | apply Kd.R_drew)); exact HO_181002.out) hb)
                                  have n2_ := Aside0.mk (blk_below (g := gb174) (o := .cells #[.int .u32 x175000_2, .int .u32 x175001_2, .int .u32 x175002_2, .slice Ao34 x175003_2.length co34, .int .i64 x175004_2] 72 (0, 0)) (by (with_reducible repeat (first | refine blk_drewN ?_ _ | refine blk_drew ?_ | refine blk_alloc ?_ _)); exact BK174.out) hb)
                                  have n3_ := Aside0.mk (blk_below (g := gb180) (o := .cells #[.int .u32 x181000_2, .int .u32 x181001_2, u181002] 42 (0, 0)) (by (with_reducible repeat (first | refine blk_drewN ?_ _ | refine blk_drew ?_ | refine blk_alloc ?_ _)); exact BK180.out) hb)
                                  have n4_ := Aside0.mk (below_step (by repeat (first | (with_reducible first | exact HB.out | apply below_alloc | apply pw_below_drewN | apply below_drew1 | refine below_set ?_ GE174.out | refine below_set ?_ GE180.out) | exact HB.out)) hb)
                                  have n5_ := Aside0.mk (hbox)
                                  have n6_ := Aside0.mk ((by rw [hg]; exact (below_size (by repeat (first | (with_reducible first | exact HB.out | apply below_alloc | apply pw_below_drewN | apply below_drew1 | refine below_set ?_ GE174.out | refine below_set ?_ GE180.out) | exact HB.out))) : w.heap.size ≤ gb191))
                                  have n7_ := Aside0.mk ((by rw [hg]; exact (below_size (by repeat (first | (with_reducible first | exact HB.out | apply below_alloc | apply pw_below_drewN | apply below_drew1 | refine below_set ?_ GE174.out | refine below_set ?_ GE180.out) | exact HB.out))) : w.heap.size ≤ gb191))
                                  have n8_ := Aside0.mk ((by rw [hg]; exact Nat.ne_of_lt (blk_lt (g := gb174) (o := .cells #[.int .u32 x175000_2, .int .u32 x175001_2, .int .u32 x175002_2, .slice Ao34 x175003_2.length co34, .int .i64 x175004_2] 72 (0, 0)) (by (with_reducible repeat (first | refine blk_drewN ?_ _ | refine blk_drew ?_ | refine blk_alloc ?_ _)); exact BK174.out)) : gb174 ≠ gb191))
                                  have n9_ := Aside0.mk ((by rw [hg]; exact Nat.ne_of_gt (blk_lt (g := gb174) (o := .cells #[.int .u32 x175000_2, .int .u32 x175001_2, .int .u32 x175002_2, .slice Ao34 x175003_2.length co34, .int .i64 x175004_2] 72 (0, 0)) (by (with_reducible repeat (first | refine blk_drewN ?_ _ | refine blk_drew ?_ | refine blk_alloc ?_ _)); exact BK174.out)) : gb191 ≠ gb174))
                                  have n10_ := Aside0.mk ((by rw [hg]; exact Nat.ne_of_lt (blk_lt (g := gb180) (o := .cells #[.int .u32 x181000_2, .int .u32 x181001_2, u181002] 42 (0, 0)) (by (with_reducible repeat (first | refine blk_drewN ?_ _ | refine blk_drew ?_ | refine blk_alloc ?_ _)); exact BK180.out)) : gb180 ≠ gb191))
                                  have n11_ := Aside0.mk ((by rw [hg]; exact Nat.ne_of_gt (blk_lt (g := gb180) (o := .cells #[.int .u32 x181000_2, .int .u32 x181001_2, u181002] 42 (0, 0)) (by (with_reducible repeat (first | refine blk_drewN ?_ _ | refine blk_drew ?_ | refine blk_alloc ?_ _)); exact BK180.out)) : gb191 ≠ gb180))
                                  clear HO_175003
                                  clear HO_181002
                                  clear BK174
                                  clear BK180
                                  clear HB
                                  have HO_175003 := n0_
                                  have HO_181002 := n1_
                                  have BK174 := n2_
                                  have BK180 := n3_
                                  have HB := n4_
                                  have BK191 := n5_
                                  have GW191 := n6_
                                  have GE191 := n7_
                                  have NB174_191 := n8_
                                  have NB191_174 := n9_
                                  have NB180_191 := n10_
                                  have NB191_180 := n11_
                                  clear n0_ n1_ n2_ n3_ n4_ n5_ n6_ n7_ n8_ n9_ n10_ n11_
                                  clear hb hbox hg
                                  refine hK.out _ _ ⟨(blk_cell BK174.out 0).trans rfl, (blk_cell BK174.out 1).trans rfl, (blk_cell BK174.out 2).trans rfl, (blk_cell BK174.out 3).trans rfl, (blk_cell BK174.out 4).trans rfl, ((HB.out.cell (World.block_lt_of_cell? w _ hw181_0)).trans hw181_0)⟩ (fun hHeld => ?_)
                                  clear hK K
                                  refine norm_ (a' := ?_) ?_ ?_
                                  rotate_left
                                  · show Act.put _ (some 10) _ = _
                                    simp only [Act.put, List.setIfInBounds_toArray, List.set_cons_zero, List.set_cons_succ, i64_w, i32_w]
                                    rfl
                                  refine one_ (i := 5) (N := some 59) #[true, true, true, true, true, true, false, false, false, false, true, false, false, false] rfl rfl (one_of HT_.out (by kernel_rfl)) (by decide) (fun K hK => ?_)
                                  refine goes_ Try.func50 (by kernel_rfl) rfl #[.agg #[.int .u32 x175000_2, .int .u32 x175001_2, .int .u32 x175002_2, .slice Ao34 x175003_2.length co34, .int .i64 x175004_2], .int .i64 (rd l1 x9_2)] (by rfl) rfl rfl (by (try simp only [List.map_toArray, List.map_cons, List.map_nil]); first | done | rfl | (simp only [List.length_drop, List.length_take]; rfl)) ?_
                                  with_reducible refine (decoder_Get.calls k2 x175000_2 x175001_2 x175002_2 _ _ x175003_2 x175004_2 (rd l1 x9_2) t182 t183 t184 t185 t188 t189 t190 _ ?side1 ?side2 A25.out).mono ?_
                                  (case side1 => repeat (first | exact (Kd.R_reads' HO_175003.out).2.2 | (with_reducible refine Kd.C_alloc ?_ _) | (with_reducible refine Kd.C_drewN ?_ _) | (with_reducible refine Kd.C_drew ?_)))
                                  (case side2 => exact (Kd.R_reads' HO_175003.out).2.1)
                                  rintro e w37 ⟨v186, rfl, ho0, hb⟩
                                  refine ⟨_, rfl, ?_⟩
                                  have n0_ := Aside0.mk (Kd.R_elder' (by (with_reducible repeat (first | apply Kd.R_alloc | apply Kd.R_drewN | apply Kd.R_drew)); exact HO_175003.out) (Kd.R_base ho0) hb)
                                  have n1_ := Aside0.mk (Kd.R_elder' (by (with_reducible repeat (first | apply Kd.R_alloc | apply Kd.R_drewN | apply Kd.R_drew)); exact HO_181002.out) (Kd.R_base ho0) hb)
                                  have n2_ := Aside0.mk (Kd.R_lower (Kd.R_new' (Kd.R_new' ho0 (Kd.R_lt (by (with_reducible repeat (first | apply Kd.R_alloc | apply Kd.R_drewN | apply Kd.R_drew)); exact HO_175003.out))) (Kd.R_lt (by (with_reducible repeat (first | apply Kd.R_alloc | apply Kd.R_drewN | apply Kd.R_drew)); exact HO_181002.out))) (below_size (by repeat (first | (with_reducible first | exact HB.out | apply below_alloc | apply pw_below_drewN | apply below_drew1 | refine below_set ?_ GE174.out | refine below_set ?_ GE180.out | refine below_set ?_ GE191.out) | exact HB.out))))
                                  have n3_ := Aside0.mk (blk_below (g := gb174) (o := .cells #[.int .u32 x175000_2, .int .u32 x175001_2, .int .u32 x175002_2, .slice Ao34 x175003_2.length co34, .int .i64 x175004_2] 72 (0, 0)) (by (with_reducible repeat (first | refine blk_drewN ?_ _ | refine blk_drew ?_ | refine blk_alloc ?_ _)); exact BK174.out) hb)
                                  have n4_ := Aside0.mk (blk_below (g := gb180) (o := .cells #[.int .u32 x181000_2, .int .u32 x181001_2, u181002] 42 (0, 0)) (by (with_reducible repeat (first | refine blk_drewN ?_ _ | refine blk_drew ?_ | refine blk_alloc ?_ _)); exact BK180.out) hb)
                                  have n5_ := Aside0.mk (blk_below (g := gb191) (o := .cells #[.int .u32 0, .int .u32 0, .int .u32 0, .slice none 0 0, .int .i64 0] 72 (0, 0)) (by (with_reducible repeat (first | refine blk_drewN ?_ _ | refine blk_drew ?_ | refine blk_alloc ?_ _)); exact BK191.out) hb)
                                  have n6_ := Aside0.mk (below_step (by repeat (first | (with_reducible first | exact HB.out | apply below_alloc | apply pw_below_drewN | apply below_drew1 | refine below_set ?_ GE174.out | refine below_set ?_ GE180.out | refine below_set ?_ GE191.out) | exact HB.out)) hb)
                                  clear HO_175003
                                  clear HO_181002
                                  clear BK174
                                  clear BK180
                                  clear BK191
                                  clear HB
                                  have HO_175003 := n0_
                                  have HO_181002 := n1_
                                  have HO187 := n2_
                                  have BK174 := n3_
                                  have BK180 := n4_
                                  have BK191 := n5_
                                  have HB := n6_
                                  clear n0_ n1_ n2_ n3_ n4_ n5_ n6_
                                  (try clear hb)
                                  (try clear hb2)
                                  (try clear hk)
                                  (try clear hi)
                                  (try clear ho0)
                                  refine hK.out _ _ ⟨(blk_cell BK174.out 0).trans rfl, (blk_cell BK174.out 1).trans rfl, (blk_cell BK174.out 2).trans rfl, (blk_cell BK174.out 3).trans rfl, (blk_cell BK174.out 4).trans rfl, ((HB.out.cell (World.block_lt_of_cell? w _ hw181_0)).trans hw181_0)⟩ (fun hHeld => ?_)
                                  clear hK K
                                  refine norm_ (a' := ?_) ?_ ?_
                                  rotate_left
                                  · show Act.put _ (some 59) _ = _
                                    simp only [Act.put, List.setIfInBounds_toArray, List.set_cons_zero, List.set_cons_succ, i64_w, i32_w]
                                    rfl
                                  refine pure_ (i := 6) (N := some 53) (v := ?_) (a' := ?_) #[true, true, true, true, true, true, true, false, false, false, true, false, false, false] rfl rfl (any_of HT_.out (by kernel_rfl)) (fun _ _ _ h => h) (Or.inl ⟨by rfl, ?_⟩) ?_ ?_
                                  rotate_left
                                  · intro w'
                                    go_simp
                                    with_reducible rfl
                                  rotate_left
                                  · simp only [Act.put, List.setIfInBounds_toArray, List.set_cons_zero, List.set_cons_succ, i64_w, i32_w]
                                    rfl
                                  refine pure_ (i := 7) (N := some 60) (v := ?_) (a' := ?_) #[true, true, true, true, true, true, true, true, false, false, true, false, false, false] rfl rfl (any_of HT_.out (by kernel_rfl)) (fun _ _ _ h => h) (Or.inl ⟨by rfl, ?_⟩) ?_ ?_
                                  rotate_left
                                  · intro w'
                                    go_simp
                                    with_reducible rfl
                                  rotate_left
                                  · simp only [Act.put, List.setIfInBounds_toArray, List.set_cons_zero, List.set_cons_succ, i64_w, i32_w]
                                    rfl
                                  refine pure_ (i := 8) (N := some 61) (v := ?_) (a' := ?_) #[true, true, true, true, true, true, true, true, true, false, true, false, false, false] rfl rfl (any_of HT_.out (by kernel_rfl)) (fun _ _ _ h => h) (Or.inl ⟨by rfl, ?_⟩) ?_ ?_
                                  rotate_left
                                  · intro w'
                                    go_simp
                                    with_reducible rfl
                                  rotate_left
                                  · simp only [Act.put, List.setIfInBounds_toArray, List.set_cons_zero, List.set_cons_succ, i64_w, i32_w]
                                    rfl
                                  refine pure_ (i := 9) (N := some 62) (v := ?_) (a' := ?_) #[true, true, true, true, true, true, true, true, true, true, true, false, false, false] rfl rfl (any_of HT_.out (by kernel_rfl)) (fun _ _ _ h => h) (Or.inl ⟨by rfl, ?_⟩) ?_ ?_
                                  rotate_left
                                  · intro w'
                                    go_simp
                                    with_reducible rfl
                                  rotate_left
                                  · simp only [Act.put, List.setIfInBounds_toArray, List.set_cons_zero, List.set_cons_succ, i64_w, i32_w]
                                    rfl
                                  exact norm_ (by simp only [putAll, Act.put, List.setIfInBounds_toArray, List.set_cons_zero, List.set_cons_succ]) (hCont (v186, gb191) _ ⟨hHeld, (by (with_reducible repeat (first | apply Kd.R_alloc | apply Kd.R_drewN | apply Kd.R_drew)); exact Kd.R_mono HO187.out (fun _ hk => by first | exact ⟨hk.1.2, hk.2⟩ | exact hk | exact hk.1 | exact hk.2 | exact hk.1.1 | exact hk.1.2)), (by (with_reducible repeat (first | apply Kd.R_alloc | apply Kd.R_drewN | apply Kd.R_drew)); exact Kd.R_mono HO_175003.out (fun _ hk => ⟨hk.2, hk.1⟩)), (by (with_reducible repeat (first | apply Kd.R_alloc | apply Kd.R_drewN | apply Kd.R_drew)); exact Kd.R_mono HO_181002.out (fun _ hk => ⟨hk.2, hk.1⟩)), (by (with_reducible repeat (first | refine blk_drewN ?_ _ | refine blk_drew ?_ | refine blk_alloc ?_ _)); exact BK174.out), (by (with_reducible repeat (first | refine blk_drewN ?_ _ | refine blk_drew ?_ | refine blk_alloc ?_ _)); exact BK180.out), (by (with_reducible repeat (first | refine blk_drewN ?_ _ | refine blk_drew ?_ | refine blk_alloc ?_ _)); exact BK191.out), GW191.out, GE191.out, NB174_191.out, NB191_174.out, NB180_191.out, NB191_180.out, (by repeat (first | (with_reducible first | exact HB.out | apply below_alloc | apply pw_below_drewN | apply below_drew1 | refine below_set ?_ GE174.out | refine below_set ?_ GE180.out | refine below_set ?_ GE191.out) | exact HB.out))⟩)
                              rintro ⟨v186, gb191⟩ w38 ⟨hS_, h0_, h1_, h2_, h3_, h4_, h5_, h6_, h7_, h8_, h9_, h10_, h11_, h12_⟩
                              have n0_ : Aside0 (Kd.R (Kd.int .u8) 5 w38 w.heap.size (fun k_ => some k_ ≠ (.slice Ao34 x175003_2.length co34 : Value).ownBlock ∧ some k_ ≠ (u181002 : Value).ownBlock) v186 t185) := ⟨h0_⟩
                              have n1_ : Aside0 (Kd.R (Kd.int .u8) 5 w38 w.heap.size (fun k_ => some k_ ≠ (v186 : Value).ownBlock ∧ some k_ ≠ (u181002 : Value).ownBlock) (.slice Ao34 x175003_2.length co34) x175003_2) := ⟨h1_⟩
                              have n2_ : Aside0 (Kd.R (Kd.int .u8) 5 w38 w.heap.size (fun k_ => some k_ ≠ (v186 : Value).ownBlock ∧ some k_ ≠ (.slice Ao34 x175003_2.length co34 : Value).ownBlock) u181002 x181002_2) := ⟨h2_⟩
                              have n3_ : Aside0 (w38.heap[gb174]? = some (.cells #[.int .u32 x175000_2, .int .u32 x175001_2, .int .u32 x175002_2, .slice Ao34 x175003_2.length co34, .int .i64 x175004_2] 72 (0, 0))) := ⟨h3_⟩
                              have n4_ : Aside0 (w38.heap[gb180]? = some (.cells #[.int .u32 x181000_2, .int .u32 x181001_2, u181002] 42 (0, 0))) := ⟨h4_⟩
                              have n5_ : Aside0 (w38.heap[gb191]? = some (.cells #[.int .u32 0, .int .u32 0, .int .u32 0, .slice none 0 0, .int .i64 0] 72 (0, 0))) := ⟨h5_⟩
                              have n6_ : Aside0 (w.heap.size ≤ gb191) := ⟨h6_⟩
                              have n7_ : Aside0 (w.heap.size ≤ gb191) := ⟨h7_⟩
                              have n8_ : Aside0 (gb174 ≠ gb191) := ⟨h8_⟩
                              have n9_ : Aside0 (gb191 ≠ gb174) := ⟨h9_⟩
                              have n10_ : Aside0 (gb180 ≠ gb191) := ⟨h10_⟩
                              have n11_ : Aside0 (gb191 ≠ gb180) := ⟨h11_⟩
                              have n12_ : Aside0 (Below w.heap.size w w38) := ⟨h12_⟩
                              clear HO_175003
                              clear HO_181002
                              clear BK174
                              clear BK180
                              clear HB
                              clear h0_ h1_ h2_ h3_ h4_ h5_ h6_ h7_ h8_ h9_ h10_ h11_ h12_
                              have HO187 := n0_
                              have HO_175003 := n1_
                              have HO_181002 := n2_
                              have BK174 := n3_
                              have BK180 := n4_
                              have BK191 := n5_
                              have GW191 := n6_
                              have GE191 := n7_
                              have NB174_191 := n8_
                              have NB191_174 := n9_
                              have NB180_191 := n10_
                              have NB191_180 := n11_
                              have HB := n12_
                              clear n0_ n1_ n2_ n3_ n4_ n5_ n6_ n7_ n8_ n9_ n10_ n11_ n12_
                              have hHeld : w38.cell? ⟨gb174, 0, none⟩ = some (.int .u32 x175000_2) ∧ w38.cell? ⟨gb174, 1, none⟩ = some (.int .u32 x175001_2) ∧ w38.cell? ⟨gb174, 2, none⟩ = some (.int .u32 x175002_2) ∧ w38.cell? ⟨gb174, 3, none⟩ = some (.slice Ao34 x175003_2.length co34) ∧ w38.cell? ⟨gb174, 4, none⟩ = some (.int .i64 x175004_2) ∧ w38.cell? (ad181.add (x9_2).toNat) = some (.int .i64 (rd l1 x9_2)) := hS_
                              obtain ⟨Ao42, co42, eo42⟩ := Kd.R_slice HO187.out
                              (first | subst eo42 | (injection eo42 with f1_ f2_ f3_; have f4_ := f1_.symm; have f5_ := f3_.symm; clear f1_ f2_ f3_; subst f4_; subst f5_))
                              refine norm_ (a' := ?_) ?_ ?_
                              rotate_left
                              · simp only [putAll, Act.put, List.setIfInBounds_toArray, List.set_cons_zero, List.set_cons_succ]
                                rfl
                              refine one_ (i := 11) (N := none) #[true, true, true, true, true, true, true, true, true, true, true, true, false, false] rfl rfl (one_of HT_.out (by kernel_rfl)) (by decide) (fun K hK => ?_)
                              have hs39 : w38.cell? ⟨gb191, 0, none⟩ = some (.int .u32 0) := (blk_cell BK191.out 0).trans rfl
                              have hfs39 := blk_frozen BK191.out 0
                              have hns39_0 := NB174_191.out
                              have hns39_1 := NB180_191.out
                              have hms39_0 := NB191_174.out
                              have hms39_1 := NB191_180.out
                              have hs40 : w38.cell? ⟨gb191, 1, none⟩ = some (.int .u32 0) := (blk_cell BK191.out 1).trans rfl
                              have hfs40 := blk_frozen BK191.out 1
                              have hns40_0 := NB174_191.out
                              have hns40_1 := NB180_191.out
                              have hms40_0 := NB191_174.out
                              have hms40_1 := NB191_180.out
                              have hs41 : w38.cell? ⟨gb191, 2, none⟩ = some (.int .u32 0) := (blk_cell BK191.out 2).trans rfl
                              have hfs41 := blk_frozen BK191.out 2
                              have hns41_0 := NB174_191.out
                              have hns41_1 := NB180_191.out
                              have hms41_0 := NB191_174.out
                              have hms41_1 := NB191_180.out
                              have hs43 : w38.cell? ⟨gb191, 3, none⟩ = some (.slice none 0 0) := (blk_cell BK191.out 3).trans rfl
                              have hfs43 := blk_frozen BK191.out 3
                              have hns43_0 := NB174_191.out
                              have hns43_1 := NB180_191.out
                              have hms43_0 := NB191_174.out
                              have hms43_1 := NB191_180.out
                              have hs44 : w38.cell? ⟨gb191, 4, none⟩ = some (.int .i64 0) := (blk_cell BK191.out 4).trans rfl
                              have hfs44 := blk_frozen BK191.out 4
                              have hns44_0 := NB174_191.out
                              have hns44_1 := NB180_191.out
                              have hms44_0 := NB191_174.out
                              have hms44_1 := NB191_180.out
                              refine skip_ (w1 := ?_) (by rfl) rfl ?_ ?_
                              rotate_left
                              · go_simp
                                rfl
                              refine hK.out _ _ ⟨((cell_far (p := ⟨gb191, _, none⟩) NB174_191.out _).trans (((cell_far (p := ⟨gb191, _, none⟩) NB174_191.out _).trans (((cell_far (p := ⟨gb191, _, none⟩) NB174_191.out _).trans (((cell_far (p := ⟨gb191, _, none⟩) NB174_191.out _).trans (((cell_far (p := ⟨gb191, _, none⟩) NB174_191.out _).trans (hHeld.1)))))))))), ((cell_far (p := ⟨gb191, _, none⟩) NB174_191.out _).trans (((cell_far (p := ⟨gb191, _, none⟩) NB174_191.out _).trans (((cell_far (p := ⟨gb191, _, none⟩) NB174_191.out _).trans (((cell_far (p := ⟨gb191, _, none⟩) NB174_191.out _).trans (((cell_far (p := ⟨gb191, _, none⟩) NB174_191.out _).trans (hHeld.2.1)))))))))), ((cell_far (p := ⟨gb191, _, none⟩) NB174_191.out _).trans (((cell_far (p := ⟨gb191, _, none⟩) NB174_191.out _).trans (((cell_far (p := ⟨gb191, _, none⟩) NB174_191.out _).trans (((cell_far (p := ⟨gb191, _, none⟩) NB174_191.out _).trans (((cell_far (p := ⟨gb191, _, none⟩) NB174_191.out _).trans (hHeld.2.2.1)))))))))), ((cell_far (p := ⟨gb191, _, none⟩) NB174_191.out _).trans (((cell_far (p := ⟨gb191, _, none⟩) NB174_191.out _).trans (((cell_far (p := ⟨gb191, _, none⟩) NB174_191.out _).trans (((cell_far (p := ⟨gb191, _, none⟩) NB174_191.out _).trans (((cell_far (p := ⟨gb191, _, none⟩) NB174_191.out _).trans (hHeld.2.2.2.1)))))))))), ((cell_far (p := ⟨gb191, _, none⟩) NB174_191.out _).trans (((cell_far (p := ⟨gb191, _, none⟩) NB174_191.out _).trans (((cell_far (p := ⟨gb191, _, none⟩) NB174_191.out _).trans (((cell_far (p := ⟨gb191, _, none⟩) NB174_191.out _).trans (((cell_far (p := ⟨gb191, _, none⟩) NB174_191.out _).trans (hHeld.2.2.2.2.1)))))))))), ((cell_far (p := ⟨gb191, _, none⟩) (by first | exact Nat.ne_of_lt (Nat.lt_of_lt_of_le (by have := World.block_lt_of_cell? _ _ hw181_0; first | rwa [add_block] at this | exact this) GW191.out) | (rw [add_block]; exact Nat.ne_of_lt (Nat.lt_of_lt_of_le (by have := World.block_lt_of_cell? _ _ hw181_0; first | rwa [add_block] at this | exact this) GW191.out)) | (show (Addr.add _ _).block ≠ _; rw [add_block]; exact Nat.ne_of_lt (Nat.lt_of_lt_of_le (by have := World.block_lt_of_cell? _ _ hw181_0; first | rwa [add_block] at this | exact this) GW191.out)) | (dsimp only; exact Nat.ne_of_lt (Nat.lt_of_lt_of_le (by have := World.block_lt_of_cell? _ _ hw181_0; first | rwa [add_block] at this | exact this) GW191.out))) _).trans (((cell_far (p := ⟨gb191, _, none⟩) (by first | exact Nat.ne_of_lt (Nat.lt_of_lt_of_le (by have := World.block_lt_of_cell? _ _ hw181_0; first | rwa [add_block] at this | exact this) GW191.out) | (rw [add_block]; exact Nat.ne_of_lt (Nat.lt_of_lt_of_le (by have := World.block_lt_of_cell? _ _ hw181_0; first | rwa [add_block] at this | exact this) GW191.out)) | (show (Addr.add _ _).block ≠ _; rw [add_block]; exact Nat.ne_of_lt (Nat.lt_of_lt_of_le (by have := World.block_lt_of_cell? _ _ hw181_0; first | rwa [add_block] at this | exact this) GW191.out)) | (dsimp only; exact Nat.ne_of_lt (Nat.lt_of_lt_of_le (by have := World.block_lt_of_cell? _ _ hw181_0; first | rwa [add_block] at this | exact this) GW191.out))) _).trans (((cell_far (p := ⟨gb191, _, none⟩) (by first | exact Nat.ne_of_lt (Nat.lt_of_lt_of_le (by have := World.block_lt_of_cell? _ _ hw181_0; first | rwa [add_block] at this | exact this) GW191.out) | (rw [add_block]; exact Nat.ne_of_lt (Nat.lt_of_lt_of_le (by have := World.block_lt_of_cell? _ _ hw181_0; first | rwa [add_block] at this | exact this) GW191.out)) | (show (Addr.add _ _).block ≠ _; rw [add_block]; exact Nat.ne_of_lt (Nat.lt_of_lt_of_le (by have := World.block_lt_of_cell? _ _ hw181_0; first | rwa [add_block] at this | exact this) GW191.out)) | (dsimp only; exact Nat.ne_of_lt (Nat.lt_of_lt_of_le (by have := World.block_lt_of_cell? _ _ hw181_0; first | rwa [add_block] at this | exact this) GW191.out))) _).trans (((cell_far (p := ⟨gb191, _, none⟩) (by first | exact Nat.ne_of_lt (Nat.lt_of_lt_of_le (by have := World.block_lt_of_cell? _ _ hw181_0; first | rwa [add_block] at this | exact this) GW191.out) | (rw [add_block]; exact Nat.ne_of_lt (Nat.lt_of_lt_of_le (by have := World.block_lt_of_cell? _ _ hw181_0; first | rwa [add_block] at this | exact this) GW191.out)) | (show (Addr.add _ _).block ≠ _; rw [add_block]; exact Nat.ne_of_lt (Nat.lt_of_lt_of_le (by have := World.block_lt_of_cell? _ _ hw181_0; first | rwa [add_block] at this | exact this) GW191.out)) | (dsimp only; exact Nat.ne_of_lt (Nat.lt_of_lt_of_le (by have := World.block_lt_of_cell? _ _ hw181_0; first | rwa [add_block] at this | exact this) GW191.out))) _).trans (((cell_far (p := ⟨gb191, _, none⟩) (by first | exact Nat.ne_of_lt (Nat.lt_of_lt_of_le (by have := World.block_lt_of_cell? _ _ hw181_0; first | rwa [add_block] at this | exact this) GW191.out) | (rw [add_block]; exact Nat.ne_of_lt (Nat.lt_of_lt_of_le (by have := World.block_lt_of_cell? _ _ hw181_0; first | rwa [add_block] at this | exact this) GW191.out)) | (show (Addr.add _ _).block ≠ _; rw [add_block]; exact Nat.ne_of_lt (Nat.lt_of_lt_of_le (by have := World.block_lt_of_cell? _ _ hw181_0; first | rwa [add_block] at this | exact this) GW191.out)) | (dsimp only; exact Nat.ne_of_lt (Nat.lt_of_lt_of_le (by have := World.block_lt_of_cell? _ _ hw181_0; first | rwa [add_block] at this | exact this) GW191.out))) _).trans (hHeld.2.2.2.2.2))))))))))⟩ (fun hHeld => ?_)
                              clear hK K
                              refine pure_ (i := 12) (N := some 11) (v := ?_) (a' := ?_) #[true, true, true, true, true, true, true, true, true, true, true, true, true, false] rfl rfl (any_of HT_.out (by kernel_rfl)) (fun _ _ _ h => h) (Or.inl ⟨by rfl, ?_⟩) ?_ ?_
                              rotate_left
                              · intro w'
                                go_simp
                                with_reducible rfl
                              rotate_left
                              · simp only [Act.put, List.setIfInBounds_toArray, List.set_cons_zero, List.set_cons_succ, i64_w, i32_w]
                                rfl
                              refine pure_ (i := 13) (N := some 12) (v := ?_) (a' := ?_) #[true, true, true, true, true, true, true, true, true, true, true, true, true, true] rfl rfl (any_of HT_.out (by kernel_rfl)) (fun _ _ _ h => h) (Or.inl ⟨by rfl, ?_⟩) ?_ ?_
                              rotate_left
                              · intro w'
                                go_simp
                                with_reducible rfl
                              rotate_left
                              · simp only [Act.put, List.setIfInBounds_toArray, List.set_cons_zero, List.set_cons_succ, i64_w, i32_w]
                                rfl
                              refine done_ (done_of HT_.out (by kernel_rfl)) ?_
                              obtain ⟨Ao45, co45, eo45⟩ := Kd.R_slice HO_181002.out
                              subst eo45
                              try go_wp2
                              have n0_ : Aside0 (Kd.R (Kd.int .u8) 5 (((((w38.setCell ⟨gb191, 0, none⟩ (.int .u32 t182)).setCell ⟨gb191, 1, none⟩ (.int .u32 t183)).setCell ⟨gb191, 2, none⟩ (.int .u32 t184)).setCell ⟨gb191, 3, none⟩ (.slice Ao42 t185.length co42)).setCell ⟨gb191, 4, none⟩ (.int .i64 t188)) w.heap.size (fun k_ => some k_ ≠ (.slice Ao45 x181002_2.length co45 : Value).ownBlock ∧ some k_ ≠ (.slice Ao42 t185.length co42 : Value).ownBlock) (.slice Ao34 x175003_2.length co34) x175003_2) := ⟨by (with_reducible repeat (first | apply Kd.R_alloc | apply Kd.R_drewN | apply Kd.R_drew)); exact Kd.R_mono (Kd.R_far (p := ⟨gb191, 4, none⟩) (Kd.R_far (p := ⟨gb191, 3, none⟩) (Kd.R_far (p := ⟨gb191, 2, none⟩) (Kd.R_far (p := ⟨gb191, 1, none⟩) (Kd.R_far (p := ⟨gb191, 0, none⟩) (Kd.R_types HO_175003.out BK191.out (by decide)) (fun _ hk => hk.2) (.int .u32 t182)) (fun _ hk => hk.2) (.int .u32 t183)) (fun _ hk => hk.2) (.int .u32 t184)) (fun _ hk => hk.2) (.slice Ao42 t185.length co42)) (fun _ hk => hk.2) (.int .i64 t188)) (fun _ hk => ⟨hk.1.2, hk.1.1⟩)⟩
                              have n1_ : Aside0 (Kd.R (Kd.int .u8) 5 (((((w38.setCell ⟨gb191, 0, none⟩ (.int .u32 t182)).setCell ⟨gb191, 1, none⟩ (.int .u32 t183)).setCell ⟨gb191, 2, none⟩ (.int .u32 t184)).setCell ⟨gb191, 3, none⟩ (.slice Ao42 t185.length co42)).setCell ⟨gb191, 4, none⟩ (.int .i64 t188)) w.heap.size (fun k_ => some k_ ≠ (.slice Ao34 x175003_2.length co34 : Value).ownBlock ∧ some k_ ≠ (.slice Ao42 t185.length co42 : Value).ownBlock) (.slice Ao45 x181002_2.length co45) x181002_2) := ⟨by (with_reducible repeat (first | apply Kd.R_alloc | apply Kd.R_drewN | apply Kd.R_drew)); exact Kd.R_mono (Kd.R_far (p := ⟨gb191, 4, none⟩) (Kd.R_far (p := ⟨gb191, 3, none⟩) (Kd.R_far (p := ⟨gb191, 2, none⟩) (Kd.R_far (p := ⟨gb191, 1, none⟩) (Kd.R_far (p := ⟨gb191, 0, none⟩) (Kd.R_types HO_181002.out BK191.out (by decide)) (fun _ hk => hk.2) (.int .u32 t182)) (fun _ hk => hk.2) (.int .u32 t183)) (fun _ hk => hk.2) (.int .u32 t184)) (fun _ hk => hk.2) (.slice Ao42 t185.length co42)) (fun _ hk => hk.2) (.int .i64 t188)) (fun _ hk => ⟨hk.1.2, hk.1.1⟩)⟩
                              have n2_ : Aside0 (Kd.R (Kd.int .u8) 5 (((((w38.setCell ⟨gb191, 0, none⟩ (.int .u32 t182)).setCell ⟨gb191, 1, none⟩ (.int .u32 t183)).setCell ⟨gb191, 2, none⟩ (.int .u32 t184)).setCell ⟨gb191, 3, none⟩ (.slice Ao42 t185.length co42)).setCell ⟨gb191, 4, none⟩ (.int .i64 t188)) w.heap.size (fun k_ => some k_ ≠ (.slice Ao34 x175003_2.length co34 : Value).ownBlock ∧ some k_ ≠ (.slice Ao45 x181002_2.length co45 : Value).ownBlock) (.slice Ao42 t185.length co42) t185) := ⟨by (with_reducible repeat (first | apply Kd.R_alloc | apply Kd.R_drewN | apply Kd.R_drew)); exact Kd.R_mono (Kd.R_far (p := ⟨gb191, 4, none⟩) (Kd.R_far (p := ⟨gb191, 3, none⟩) (Kd.R_far (p := ⟨gb191, 2, none⟩) (Kd.R_far (p := ⟨gb191, 1, none⟩) (Kd.R_far (p := ⟨gb191, 0, none⟩) (Kd.R_types HO187.out BK191.out (by decide)) (fun _ hk => hk.2) (.int .u32 t182)) (fun _ hk => hk.2) (.int .u32 t183)) (fun _ hk => hk.2) (.int .u32 t184)) (fun _ hk => hk.2) (.slice Ao42 t185.length co42)) (fun _ hk => hk.2) (.int .i64 t188)) (fun _ hk => ⟨hk.1.1, hk.1.2⟩)⟩
                              have n3_ : Aside0 ((((((w38.setCell ⟨gb191, 0, none⟩ (.int .u32 t182)).setCell ⟨gb191, 1, none⟩ (.int .u32 t183)).setCell ⟨gb191, 2, none⟩ (.int .u32 t184)).setCell ⟨gb191, 3, none⟩ (.slice Ao42 t185.length co42)).setCell ⟨gb191, 4, none⟩ (.int .i64 t188)).heap[gb174]? = some (.cells #[.int .u32 x175000_2, .int .u32 x175001_2, .int .u32 x175002_2, .slice Ao34 x175003_2.length co34, .int .i64 x175004_2] 72 (0, 0))) := ⟨by (with_reducible repeat (first | refine blk_drewN ?_ _ | refine blk_drew ?_ | refine blk_alloc ?_ _)); refine blk_far ?_ NB174_191.out _; (with_reducible repeat (first | refine blk_drewN ?_ _ | refine blk_drew ?_ | refine blk_alloc ?_ _)); refine blk_far ?_ NB174_191.out _; (with_reducible repeat (first | refine blk_drewN ?_ _ | refine blk_drew ?_ | refine blk_alloc ?_ _)); refine blk_far ?_ NB174_191.out _; (with_reducible repeat (first | refine blk_drewN ?_ _ | refine blk_drew ?_ | refine blk_alloc ?_ _)); refine blk_far ?_ NB174_191.out _; (with_reducible repeat (first | refine blk_drewN ?_ _ | refine blk_drew ?_ | refine blk_alloc ?_ _)); refine blk_far ?_ NB174_191.out _; (with_reducible repeat (first | refine blk_drewN ?_ _ | refine blk_drew ?_ | refine blk_alloc ?_ _)); exact BK174.out⟩
                              have n4_ : Aside0 ((((((w38.setCell ⟨gb191, 0, none⟩ (.int .u32 t182)).setCell ⟨gb191, 1, none⟩ (.int .u32 t183)).setCell ⟨gb191, 2, none⟩ (.int .u32 t184)).setCell ⟨gb191, 3, none⟩ (.slice Ao42 t185.length co42)).setCell ⟨gb191, 4, none⟩ (.int .i64 t188)).heap[gb180]? = some (.cells #[.int .u32 x181000_2, .int .u32 x181001_2, .slice Ao45 x181002_2.length co45] 42 (0, 0))) := ⟨by (with_reducible repeat (first | refine blk_drewN ?_ _ | refine blk_drew ?_ | refine blk_alloc ?_ _)); refine blk_far ?_ NB180_191.out _; (with_reducible repeat (first | refine blk_drewN ?_ _ | refine blk_drew ?_ | refine blk_alloc ?_ _)); refine blk_far ?_ NB180_191.out _; (with_reducible repeat (first | refine blk_drewN ?_ _ | refine blk_drew ?_ | refine blk_alloc ?_ _)); refine blk_far ?_ NB180_191.out _; (with_reducible repeat (first | refine blk_drewN ?_ _ | refine blk_drew ?_ | refine blk_alloc ?_ _)); refine blk_far ?_ NB180_191.out _; (with_reducible repeat (first | refine blk_drewN ?_ _ | refine blk_drew ?_ | refine blk_alloc ?_ _)); refine blk_far ?_ NB180_191.out _; (with_reducible repeat (first | refine blk_drewN ?_ _ | refine blk_drew ?_ | refine blk_alloc ?_ _)); exact BK180.out⟩
                              have n5_ : Aside0 ((((((w38.setCell ⟨gb191, 0, none⟩ (.int .u32 t182)).setCell ⟨gb191, 1, none⟩ (.int .u32 t183)).setCell ⟨gb191, 2, none⟩ (.int .u32 t184)).setCell ⟨gb191, 3, none⟩ (.slice Ao42 t185.length co42)).setCell ⟨gb191, 4, none⟩ (.int .i64 t188)).heap[gb191]? = some (.cells #[.int .u32 t182, .int .u32 t183, .int .u32 t184, .slice Ao42 t185.length co42, .int .i64 t188] 72 (0, 0))) := ⟨by (with_reducible repeat (first | refine blk_drewN ?_ _ | refine blk_drew ?_ | refine blk_alloc ?_ _)); refine blk_put (cs := #[.int .u32 t182, .int .u32 t183, .int .u32 t184, .slice Ao42 t185.length co42, .int .i64 0]) ?_ 4 _ rfl; (with_reducible repeat (first | refine blk_drewN ?_ _ | refine blk_drew ?_ | refine blk_alloc ?_ _)); refine blk_put (cs := #[.int .u32 t182, .int .u32 t183, .int .u32 t184, .slice none 0 0, .int .i64 0]) ?_ 3 _ rfl; (with_reducible repeat (first | refine blk_drewN ?_ _ | refine blk_drew ?_ | refine blk_alloc ?_ _)); refine blk_put (cs := #[.int .u32 t182, .int .u32 t183, .int .u32 0, .slice none 0 0, .int .i64 0]) ?_ 2 _ rfl; (with_reducible repeat (first | refine blk_drewN ?_ _ | refine blk_drew ?_ | refine blk_alloc ?_ _)); refine blk_put (cs := #[.int .u32 t182, .int .u32 0, .int .u32 0, .slice none 0 0, .int .i64 0]) ?_ 1 _ rfl; (with_reducible repeat (first | refine blk_drewN ?_ _ | refine blk_drew ?_ | refine blk_alloc ?_ _)); refine blk_put (cs := #[.int .u32 0, .int .u32 0, .int .u32 0, .slice none 0 0, .int .i64 0]) ?_ 0 _ rfl; (with_reducible repeat (first | refine blk_drewN ?_ _ | refine blk_drew ?_ | refine blk_alloc ?_ _)); exact BK191.out⟩
                              have n6_ : Aside0 (Below w.heap.size w (((((w38.setCell ⟨gb191, 0, none⟩ (.int .u32 t182)).setCell ⟨gb191, 1, none⟩ (.int .u32 t183)).setCell ⟨gb191, 2, none⟩ (.int .u32 t184)).setCell ⟨gb191, 3, none⟩ (.slice Ao42 t185.length co42)).setCell ⟨gb191, 4, none⟩ (.int .i64 t188))) := ⟨by repeat (first | (with_reducible first | exact HB.out | apply below_alloc | apply pw_below_drewN | apply below_drew1 | refine below_set ?_ GE174.out | refine below_set ?_ GE180.out | refine below_set ?_ GE191.out) | exact HB.out)⟩
                              (try clear HO_175003)
                              (try clear HO_181002)
                              (try clear HO187)
                              (try clear BK174)
                              (try clear BK180)
                              (try clear BK191)
                              (try clear HB)
                              generalize (((((w38.setCell ⟨gb191, 0, none⟩ (.int .u32 t182)).setCell ⟨gb191, 1, none⟩ (.int .u32 t183)).setCell ⟨gb191, 2, none⟩ (.int .u32 t184)).setCell ⟨gb191, 3, none⟩ (.slice Ao42 t185.length co42)).setCell ⟨gb191, 4, none⟩ (.int .i64 t188)) = w46 at n0_ n1_ n2_ n3_ n4_ n5_ n6_ ⊢
                              have HO_175003 := n0_
                              have HO_181002 := n1_
                              have HO187 := n2_
                              have BK174 := n3_
                              have BK180 := n4_
                              have BK191 := n5_
                              have HB := n6_
                              clear n0_ n1_ n2_ n3_ n4_ n5_ n6_
                              have n0_ := Aside0.mk (Kd.R_drew HO_175003.out)
                              have n1_ := Aside0.mk (Kd.R_drew HO_181002.out)
                              have n2_ := Aside0.mk (Kd.R_drew HO187.out)
                              have n3_ := Aside0.mk (blk_drew BK174.out)
                              have n4_ := Aside0.mk (blk_drew BK180.out)
                              have n5_ := Aside0.mk (blk_drew BK191.out)
                              have n6_ := Aside0.mk (below_drew1 HB.out)
                              clear HO_175003
                              clear HO_181002
                              clear HO187
                              clear BK174
                              clear BK180
                              clear BK191
                              clear HB
                              have HO_175003 := n0_
                              have HO_181002 := n1_
                              have HO187 := n2_
                              have BK174 := n3_
                              have BK180 := n4_
                              have BK191 := n5_
                              have HB := n6_
                              clear n0_ n1_ n2_ n3_ n4_ n5_ n6_
                              have p192 : 0 ≤ (x9_2 : Int) := of_decide_eq_true (by first | (with_reducible assumption) | assumption)
                              have q192 : x9_2 < (l1.length : Int) := of_decide_eq_true (by first | (with_reducible assumption) | assumption)
                              obtain ⟨ad192, e192, hx192_0⟩ := Kd.at_int HR1.out x9_2 p192 q192
                              have hw192_0 := hx192_0
                              obtain rfl : ad181 = ad192 := (by injection e192)
                              replace hx192_0 := (HB.out.cell (World.block_lt_of_cell? w _ hx192_0)).trans hx192_0
                              replace p192 := eq_true p192
                              replace q192 := eq_true q192
                              refine start_ (n := 13) (S := fun w' => w'.cell? ⟨gb180, 0, none⟩ = some (.int .u32 x181000_2) ∧ w'.cell? ⟨gb180, 1, none⟩ = some (.int .u32 x181001_2) ∧ w'.cell? ⟨gb180, 2, none⟩ = some (.slice Ao45 x181002_2.length co45) ∧ w'.cell? (ad181.add (x9_2).toNat) = some (.int .i64 (rd l1 x9_2))) (ds := []) #[false, false, false, false, false, false, false, false, false, false, false, false, false] (by kernel_rfl) rfl rfl ⟨(blk_cell BK180.out 0).trans rfl, (blk_cell BK180.out 1).trans rfl, (blk_cell BK180.out 2).trans rfl, ((HB.out.cell (World.block_lt_of_cell? w _ hw192_0)).trans hw192_0)⟩ (fun hHeld => ?_); refine with_tabW bitloftlaw21_DecoderRange.tab12 bitloftlaw21_DecoderRange.bits12 (fun HT_ HW_ => ?_)
                              generalize w46.drew = w47 at HO_175003 HO_181002 HO187 BK174 BK180 BK191 HB hx192_0 hHeld ⊢
                              refine pure_ (i := 1) (N := some 65) (v := ?_) (a' := ?_) #[false, true, false, false, false, false, false, false, false, false, false, false, false] rfl rfl (any_of HT_.out (by kernel_rfl)) (fun _ _ _ h => h) (Or.inl ⟨by rfl, ?_⟩) ?_ ?_
                              rotate_left
                              · intro w'
                                go_simp
                                with_reducible rfl
                              rotate_left
                              · simp only [Act.put, List.setIfInBounds_toArray, List.set_cons_zero, List.set_cons_succ, i64_w, i32_w]
                                rfl
                              refine pure_ (i := 2) (N := some 66) (v := ?_) (a' := ?_) #[false, true, true, false, false, false, false, false, false, false, false, false, false] rfl rfl (any_of HT_.out (by kernel_rfl)) (fun _ _ _ h => h) (Or.inl ⟨by rfl, ?_⟩) ?_ ?_
                              rotate_left
                              · intro w'
                                go_simp
                                with_reducible rfl
                              rotate_left
                              · simp only [Act.put, List.setIfInBounds_toArray, List.set_cons_zero, List.set_cons_succ, i64_w, i32_w]
                                rfl
                              refine pure_ (i := 3) (N := some 67) (v := ?_) (a' := ?_) #[false, true, true, true, false, false, false, false, false, false, false, false, false] rfl rfl (any_of HT_.out (by kernel_rfl)) (fun _ _ _ h => h) (Or.inl ⟨by rfl, ?_⟩) ?_ ?_
                              rotate_left
                              · intro w'
                                go_simp
                                with_reducible rfl
                              rotate_left
                              · simp only [Act.put, List.setIfInBounds_toArray, List.set_cons_zero, List.set_cons_succ, i64_w, i32_w]
                                rfl
                              refine pure_ (i := 5) (N := some 69) (v := ?_) (a' := ?_) #[false, true, true, true, false, true, false, false, false, false, false, false, false] rfl rfl (any_of HT_.out (by kernel_rfl)) (fun _ _ _ h => h) (Or.inl ⟨by rfl, ?_⟩) ?_ ?_
                              rotate_left
                              · intro w'
                                go_simp
                                with_reducible rfl
                              rotate_left
                              · simp only [Act.put, List.setIfInBounds_toArray, List.set_cons_zero, List.set_cons_succ, i64_w, i32_w]
                                rfl
                              refine take_ (i := 0) (N := some 64) (v := ?_) (a' := ?_) #[true, true, true, true, false, true, false, false, false, false, false, false, false] rfl rfl (take_ofW HT_.out HW_.out (by kernel_rfl)) (fun _ _ _ h => h) (Or.inl ⟨by rfl, ?_⟩) hHeld ?_ ?_
                              rotate_left
                              · rintro w' ⟨s0, s1, s2, s3⟩
                                go_simp
                                with_reducible rfl
                              rotate_left
                              · simp only [Act.put, List.setIfInBounds_toArray, List.set_cons_zero, List.set_cons_succ, i64_w, i32_w]
                                rfl
                              refine take_ (i := 4) (N := some 68) (v := ?_) (a' := ?_) #[true, true, true, true, true, true, false, false, false, false, false, false, false] rfl rfl (take_ofW HT_.out HW_.out (by kernel_rfl)) (fun _ _ _ h => h) (Or.inl ⟨by rfl, ?_⟩) hHeld ?_ ?_
                              rotate_left
                              · rintro w' ⟨s0, s1, s2, s3⟩
                                go_simp
                                with_reducible rfl
                              rotate_left
                              · simp only [Act.put, List.setIfInBounds_toArray, List.set_cons_zero, List.set_cons_succ, i64_w, i32_w]
                                rfl
                              refine join_ (σ := Value × Nat) 2 #[true, true, true, true, true, true, true, true, true, true, true, false, false] (fun s_ => [(70, .tuple #[.agg #[.int .u32 t193, .int .u32 t194, s_.1], .int .i64 t198]), (13, .pointer (some ⟨s_.2, 0, none⟩)), (63, .tuple #[.agg #[.int .u32 t193, .int .u32 t194, s_.1], .int .i64 t198]), (71, .agg #[.int .u32 t193, .int .u32 t194, s_.1]), (72, .int .i64 t198)]) (fun s_ w' => (w'.cell? ⟨gb180, 0, none⟩ = some (.int .u32 x181000_2) ∧ w'.cell? ⟨gb180, 1, none⟩ = some (.int .u32 x181001_2) ∧ w'.cell? ⟨gb180, 2, none⟩ = some (.slice Ao45 x181002_2.length co45) ∧ w'.cell? (ad181.add (x9_2).toNat) = some (.int .i64 (rd l1 x9_2))) ∧ (Kd.R (Kd.int .u8) 5 w' w.heap.size (fun k_ => some k_ ≠ (s_.1 : Value).ownBlock ∧ some k_ ≠ (.slice Ao34 x175003_2.length co34 : Value).ownBlock ∧ some k_ ≠ (.slice Ao45 x181002_2.length co45 : Value).ownBlock) (.slice Ao42 t185.length co42) t185) ∧ (Kd.R (Kd.int .u8) 5 w' w.heap.size (fun k_ => some k_ ≠ (.slice Ao42 t185.length co42 : Value).ownBlock ∧ some k_ ≠ (.slice Ao34 x175003_2.length co34 : Value).ownBlock ∧ some k_ ≠ (.slice Ao45 x181002_2.length co45 : Value).ownBlock) s_.1 t195) ∧ (Kd.R (Kd.int .u8) 5 w' w.heap.size (fun k_ => some k_ ≠ (.slice Ao42 t185.length co42 : Value).ownBlock ∧ some k_ ≠ (s_.1 : Value).ownBlock ∧ some k_ ≠ (.slice Ao45 x181002_2.length co45 : Value).ownBlock) (.slice Ao34 x175003_2.length co34) x175003_2) ∧ (Kd.R (Kd.int .u8) 5 w' w.heap.size (fun k_ => some k_ ≠ (.slice Ao42 t185.length co42 : Value).ownBlock ∧ some k_ ≠ (s_.1 : Value).ownBlock ∧ some k_ ≠ (.slice Ao34 x175003_2.length co34 : Value).ownBlock) (.slice Ao45 x181002_2.length co45) x181002_2) ∧ (w'.heap[gb174]? = some (.cells #[.int .u32 x175000_2, .int .u32 x175001_2, .int .u32 x175002_2, .slice Ao34 x175003_2.length co34, .int .i64 x175004_2] 72 (0, 0))) ∧ (w'.heap[gb180]? = some (.cells #[.int .u32 x181000_2, .int .u32 x181001_2, .slice Ao45 x181002_2.length co45] 42 (0, 0))) ∧ (w'.heap[gb191]? = some (.cells #[.int .u32 t182, .int .u32 t183, .int .u32 t184, .slice Ao42 t185.length co42, .int .i64 t188] 72 (0, 0))) ∧ (w'.heap[s_.2]? = some (.cells #[.int .u32 0, .int .u32 0, .slice none 0 0] 42 (0, 0))) ∧ (w.heap.size ≤ s_.2) ∧ (w.heap.size ≤ s_.2) ∧ (gb174 ≠ s_.2) ∧ (s_.2 ≠ gb174) ∧ (gb180 ≠ s_.2) ∧ (s_.2 ≠ gb180) ∧ (gb191 ≠ s_.2) ∧ (s_.2 ≠ gb191) ∧ (Below w.heap.size w w')) ?_ ?_
                              rotate_left
                              · intro hCont
                                refine two_ (i := 6) (j := 10) (Ni := some 70) (Nj := some 13) #[true, true, true, true, true, true, true, false, false, false, false, false, false] #[true, true, true, true, true, true, false, false, false, false, true, false, false] rfl rfl rfl rfl (two_of HT_.out (by kernel_rfl)) (by decide) (by decide) (fun K hK => ?_) (fun K hK => ?_)
                                · skip
                                  refine goes_ Try.func30 (by kernel_rfl) rfl #[.agg #[.int .u32 x181000_2, .int .u32 x181001_2, .slice Ao45 x181002_2.length co45], .int .i64 (rd l1 x9_2), .bool t189] (by rfl) rfl rfl (by (try simp only [List.map_toArray, List.map_cons, List.map_nil]); first | done | rfl | (simp only [List.length_drop, List.length_take]; rfl)) ?_
                                  with_reducible refine (encoder_Put.calls k2 x181000_2 x181001_2 _ _ x181002_2 (rd l1 x9_2) t189 t193 t194 t195 t198 _ ?side1 ?side2 A26.out).mono ?_
                                  (case side1 => repeat (first | exact (Kd.R_reads' HO_181002.out).2.2 | (with_reducible refine Kd.C_alloc ?_ _) | (with_reducible refine Kd.C_drewN ?_ _) | (with_reducible refine Kd.C_drew ?_)))
                                  (case side2 => exact (Kd.R_reads' HO_181002.out).2.1)
                                  rintro e w48 ⟨v196, rfl, ho0, hb⟩
                                  refine ⟨_, rfl, ?_⟩
                                  have n0_ := Aside0.mk (Kd.R_elder' (by (with_reducible repeat (first | apply Kd.R_alloc | apply Kd.R_drewN | apply Kd.R_drew)); exact HO_175003.out) (Kd.R_base ho0) hb)
                                  have n1_ := Aside0.mk (Kd.R_elder' (by (with_reducible repeat (first | apply Kd.R_alloc | apply Kd.R_drewN | apply Kd.R_drew)); exact HO_181002.out) (Kd.R_base ho0) hb)
                                  have n2_ := Aside0.mk (Kd.R_elder' (by (with_reducible repeat (first | apply Kd.R_alloc | apply Kd.R_drewN | apply Kd.R_drew)); exact HO187.out) (Kd.R_base ho0) hb)
                                  have n3_ := Aside0.mk (Kd.R_lower (Kd.R_new' (Kd.R_new' (Kd.R_new' ho0 (Kd.R_lt (by (with_reducible repeat (first | apply Kd.R_alloc | apply Kd.R_drewN | apply Kd.R_drew)); exact HO_175003.out))) (Kd.R_lt (by (with_reducible repeat (first | apply Kd.R_alloc | apply Kd.R_drewN | apply Kd.R_drew)); exact HO_181002.out))) (Kd.R_lt (by (with_reducible repeat (first | apply Kd.R_alloc | apply Kd.R_drewN | apply Kd.R_drew)); exact HO187.out))) (below_size (by repeat (first | (with_reducible first | exact HB.out | apply below_alloc | apply pw_below_drewN | apply below_drew1 | refine below_set ?_ GE174.out | refine below_set ?_ GE180.out | refine below_set ?_ GE191.out) | exact HB.out))))
                                  have n4_ := Aside0.mk (blk_below (g := gb174) (o := .cells #[.int .u32 x175000_2, .int .u32 x175001_2, .int .u32 x175002_2, .slice Ao34 x175003_2.length co34, .int .i64 x175004_2] 72 (0, 0)) (by (with_reducible repeat (first | refine blk_drewN ?_ _ | refine blk_drew ?_ | refine blk_alloc ?_ _)); exact BK174.out) hb)
                                  have n5_ := Aside0.mk (blk_below (g := gb180) (o := .cells #[.int .u32 x181000_2, .int .u32 x181001_2, .slice Ao45 x181002_2.length co45] 42 (0, 0)) (by (with_reducible repeat (first | refine blk_drewN ?_ _ | refine blk_drew ?_ | refine blk_alloc ?_ _)); exact BK180.out) hb)
                                  have n6_ := Aside0.mk (blk_below (g := gb191) (o := .cells #[.int .u32 t182, .int .u32 t183, .int .u32 t184, .slice Ao42 t185.length co42, .int .i64 t188] 72 (0, 0)) (by (with_reducible repeat (first | refine blk_drewN ?_ _ | refine blk_drew ?_ | refine blk_alloc ?_ _)); exact BK191.out) hb)
                                  have n7_ := Aside0.mk (below_step (by repeat (first | (with_reducible first | exact HB.out | apply below_alloc | apply pw_below_drewN | apply below_drew1 | refine below_set ?_ GE174.out | refine below_set ?_ GE180.out | refine below_set ?_ GE191.out) | exact HB.out)) hb)
                                  clear HO_175003
                                  clear HO_181002
                                  clear HO187
                                  clear BK174
                                  clear BK180
                                  clear BK191
                                  clear HB
                                  have HO_175003 := n0_
                                  have HO_181002 := n1_
                                  have HO187 := n2_
                                  have HO197 := n3_
                                  have BK174 := n4_
                                  have BK180 := n5_
                                  have BK191 := n6_
                                  have HB := n7_
                                  clear n0_ n1_ n2_ n3_ n4_ n5_ n6_ n7_
                                  (try clear hb)
                                  (try clear hb2)
                                  (try clear hk)
                                  (try clear hi)
                                  (try clear ho0)
                                  refine hK.out _ _ ⟨(blk_cell BK180.out 0).trans rfl, (blk_cell BK180.out 1).trans rfl, (blk_cell BK180.out 2).trans rfl, ((HB.out.cell (World.block_lt_of_cell? w _ hw192_0)).trans hw192_0)⟩ (fun hHeld => ?_)
                                  clear hK K
                                  refine norm_ (a' := ?_) ?_ ?_
                                  rotate_left
                                  · show Act.put _ (some 70) _ = _
                                    simp only [Act.put, List.setIfInBounds_toArray, List.set_cons_zero, List.set_cons_succ, i64_w, i32_w]
                                    rfl
                                  refine pure_ (i := 7) (N := some 63) (v := ?_) (a' := ?_) #[true, true, true, true, true, true, true, true, false, false, false, false, false] rfl rfl (any_of HT_.out (by kernel_rfl)) (fun _ _ _ h => h) (Or.inl ⟨by rfl, ?_⟩) ?_ ?_
                                  rotate_left
                                  · intro w'
                                    go_simp
                                    with_reducible rfl
                                  rotate_left
                                  · simp only [Act.put, List.setIfInBounds_toArray, List.set_cons_zero, List.set_cons_succ, i64_w, i32_w]
                                    rfl
                                  refine pure_ (i := 8) (N := some 71) (v := ?_) (a' := ?_) #[true, true, true, true, true, true, true, true, true, false, false, false, false] rfl rfl (any_of HT_.out (by kernel_rfl)) (fun _ _ _ h => h) (Or.inl ⟨by rfl, ?_⟩) ?_ ?_
                                  rotate_left
                                  · intro w'
                                    go_simp
                                    with_reducible rfl
                                  rotate_left
                                  · simp only [Act.put, List.setIfInBounds_toArray, List.set_cons_zero, List.set_cons_succ, i64_w, i32_w]
                                    rfl
                                  refine pure_ (i := 9) (N := some 72) (v := ?_) (a' := ?_) #[true, true, true, true, true, true, true, true, true, true, false, false, false] rfl rfl (any_of HT_.out (by kernel_rfl)) (fun _ _ _ h => h) (Or.inl ⟨by rfl, ?_⟩) ?_ ?_
                                  rotate_left
                                  · intro w'
                                    go_simp
                                    with_reducible rfl
                                  rotate_left
                                  · simp only [Act.put, List.setIfInBounds_toArray, List.set_cons_zero, List.set_cons_succ, i64_w, i32_w]
                                    rfl
                                  refine one_ (i := 10) (N := some 13) #[true, true, true, true, true, true, true, true, true, true, true, false, false] rfl rfl (one_of HT_.out (by kernel_rfl)) (by decide) (fun K hK => ?_)
                                  refine box_step ?hg (N := 13) ?hd (cs := #[.int .u32 0, .int .u32 0, .slice none 0 0]) (t := 42) ?hr ?_; (case hd => rfl); (case hg => rfl); (case hr => first | (go_simp; done) | (go_simp; rfl))
                                  intro gb199 hg w49 hbox hb
                                  have n0_ := Aside0.mk (Kd.R_below (by (with_reducible repeat (first | apply Kd.R_alloc | apply Kd.R_drewN | apply Kd.R_drew)); exact HO_175003.out) hb)
                                  have n1_ := Aside0.mk (Kd.R_below (by (with_reducible repeat (first | apply Kd.R_alloc | apply Kd.R_drewN | apply Kd.R_drew)); exact HO_181002.out) hb)
                                  have n2_ := Aside0.mk (Kd.R_below (by (with_reducible repeat (first | apply Kd.R_alloc | apply Kd.R_drewN | apply Kd.R_drew)); exact HO187.out) hb)
                                  have n3_ := Aside0.mk (Kd.R_below (by (with_reducible repeat (first | apply Kd.R_alloc | apply Kd.R_drewN | apply Kd.R_drew)); exact HO197.out) hb)
                                  have n4_ := Aside0.mk (blk_below (g := gb174) (o := .cells #[.int .u32 x175000_2, .int .u32 x175001_2, .int .u32 x175002_2, .slice Ao34 x175003_2.length co34, .int .i64 x175004_2] 72 (0, 0)) (by (with_reducible repeat (first | refine blk_drewN ?_ _ | refine blk_drew ?_ | refine blk_alloc ?_ _)); exact BK174.out) hb)
                                  have n5_ := Aside0.mk (blk_below (g := gb180) (o := .cells #[.int .u32 x181000_2, .int .u32 x181001_2, .slice Ao45 x181002_2.length co45] 42 (0, 0)) (by (with_reducible repeat (first | refine blk_drewN ?_ _ | refine blk_drew ?_ | refine blk_alloc ?_ _)); exact BK180.out) hb)
                                  have n6_ := Aside0.mk (blk_below (g := gb191) (o := .cells #[.int .u32 t182, .int .u32 t183, .int .u32 t184, .slice Ao42 t185.length co42, .int .i64 t188] 72 (0, 0)) (by (with_reducible repeat (first | refine blk_drewN ?_ _ | refine blk_drew ?_ | refine blk_alloc ?_ _)); exact BK191.out) hb)
                                  have n7_ := Aside0.mk (below_step (by repeat (first | (with_reducible first | exact HB.out | apply below_alloc | apply pw_below_drewN | apply below_drew1 | refine below_set ?_ GE174.out | refine below_set ?_ GE180.out | refine below_set ?_ GE191.out) | exact HB.out)) hb)
                                  have n8_ := Aside0.mk (hbox)
                                  have n9_ := Aside0.mk ((by rw [hg]; exact (below_size (by repeat (first | (with_reducible first | exact HB.out | apply below_alloc | apply pw_below_drewN | apply below_drew1 | refine below_set ?_ GE174.out | refine below_set ?_ GE180.out | refine below_set ?_ GE191.out) | exact HB.out))) : w.heap.size ≤ gb199))
                                  have n10_ := Aside0.mk ((by rw [hg]; exact (below_size (by repeat (first | (with_reducible first | exact HB.out | apply below_alloc | apply pw_below_drewN | apply below_drew1 | refine below_set ?_ GE174.out | refine below_set ?_ GE180.out | refine below_set ?_ GE191.out) | exact HB.out))) : w.heap.size ≤ gb199))
                                  have n11_ := Aside0.mk ((by rw [hg]; exact Nat.ne_of_lt (blk_lt (g := gb174) (o := .cells #[.int .u32 x175000_2, .int .u32 x175001_2, .int .u32 x175002_2, .slice Ao34 x175003_2.length co34, .int .i64 x175004_2] 72 (0, 0)) (by (with_reducible repeat (first | refine blk_drewN ?_ _ | refine blk_drew ?_ | refine blk_alloc ?_ _)); exact BK174.out)) : gb174 ≠ gb199))
                                  have n12_ := Aside0.mk ((by rw [hg]; exact Nat.ne_of_gt (blk_lt (g := gb174) (o := .cells #[.int .u32 x175000_2, .int .u32 x175001_2, .int .u32 x175002_2, .slice Ao34 x175003_2.length co34, .int .i64 x175004_2] 72 (0, 0)) (by (with_reducible repeat (first | refine blk_drewN ?_ _ | refine blk_drew ?_ | refine blk_alloc ?_ _)); exact BK174.out)) : gb199 ≠ gb174))
                                  have n13_ := Aside0.mk ((by rw [hg]; exact Nat.ne_of_lt (blk_lt (g := gb180) (o := .cells #[.int .u32 x181000_2, .int .u32 x181001_2, .slice Ao45 x181002_2.length co45] 42 (0, 0)) (by (with_reducible repeat (first | refine blk_drewN ?_ _ | refine blk_drew ?_ | refine blk_alloc ?_ _)); exact BK180.out)) : gb180 ≠ gb199))
                                  have n14_ := Aside0.mk ((by rw [hg]; exact Nat.ne_of_gt (blk_lt (g := gb180) (o := .cells #[.int .u32 x181000_2, .int .u32 x181001_2, .slice Ao45 x181002_2.length co45] 42 (0, 0)) (by (with_reducible repeat (first | refine blk_drewN ?_ _ | refine blk_drew ?_ | refine blk_alloc ?_ _)); exact BK180.out)) : gb199 ≠ gb180))
                                  have n15_ := Aside0.mk ((by rw [hg]; exact Nat.ne_of_lt (blk_lt (g := gb191) (o := .cells #[.int .u32 t182, .int .u32 t183, .int .u32 t184, .slice Ao42 t185.length co42, .int .i64 t188] 72 (0, 0)) (by (with_reducible repeat (first | refine blk_drewN ?_ _ | refine blk_drew ?_ | refine blk_alloc ?_ _)); exact BK191.out)) : gb191 ≠ gb199))
                                  have n16_ := Aside0.mk ((by rw [hg]; exact Nat.ne_of_gt (blk_lt (g := gb191) (o := .cells #[.int .u32 t182, .int .u32 t183, .int .u32 t184, .slice Ao42 t185.length co42, .int .i64 t188] 72 (0, 0)) (by (with_reducible repeat (first | refine blk_drewN ?_ _ | refine blk_drew ?_ | refine blk_alloc ?_ _)); exact BK191.out)) : gb199 ≠ gb191))
                                  clear HO_175003
                                  clear HO_181002
                                  clear HO187
                                  clear HO197
                                  clear BK174
                                  clear BK180
                                  clear BK191
                                  clear HB
                                  have HO_175003 := n0_
                                  have HO_181002 := n1_
                                  have HO187 := n2_
                                  have HO197 := n3_
                                  have BK174 := n4_
                                  have BK180 := n5_
                                  have BK191 := n6_
                                  have HB := n7_
                                  have BK199 := n8_
                                  have GW199 := n9_
                                  have GE199 := n10_
                                  have NB174_199 := n11_
                                  have NB199_174 := n12_
                                  have NB180_199 := n13_
                                  have NB199_180 := n14_
                                  have NB191_199 := n15_
                                  have NB199_191 := n16_
                                  clear n0_ n1_ n2_ n3_ n4_ n5_ n6_ n7_ n8_ n9_ n10_ n11_ n12_ n13_ n14_ n15_ n16_
                                  clear hb hbox hg
                                  refine hK.out _ _ ⟨(blk_cell BK180.out 0).trans rfl, (blk_cell BK180.out 1).trans rfl, (blk_cell BK180.out 2).trans rfl, ((HB.out.cell (World.block_lt_of_cell? w _ hw192_0)).trans hw192_0)⟩ (fun hHeld => ?_)
                                  clear hK K
                                  refine norm_ (a' := ?_) ?_ ?_
                                  rotate_left
                                  · show Act.put _ (some 13) _ = _
                                    simp only [Act.put, List.setIfInBounds_toArray, List.set_cons_zero, List.set_cons_succ, i64_w, i32_w]
                                    rfl
                                  exact norm_ (by simp only [putAll, Act.put, List.setIfInBounds_toArray, List.set_cons_zero, List.set_cons_succ]) (hCont (v196, gb199) _ ⟨hHeld, (by (with_reducible repeat (first | apply Kd.R_alloc | apply Kd.R_drewN | apply Kd.R_drew)); exact Kd.R_mono HO187.out (fun _ hk => by first | exact ⟨hk.2, ⟨hk.1.1, hk.1.2⟩⟩ | exact hk | exact hk.1 | exact hk.2 | exact hk.1.1 | exact hk.1.2)), (by (with_reducible repeat (first | apply Kd.R_alloc | apply Kd.R_drewN | apply Kd.R_drew)); exact Kd.R_mono HO197.out (fun _ hk => by first | exact ⟨hk.2, ⟨hk.1.1.2, hk.1.2⟩⟩ | exact hk | exact hk.1 | exact hk.2 | exact hk.1.1 | exact hk.1.2)), (by (with_reducible repeat (first | apply Kd.R_alloc | apply Kd.R_drewN | apply Kd.R_drew)); exact Kd.R_mono HO_175003.out (fun _ hk => ⟨hk.1.2, ⟨hk.2, hk.1.1⟩⟩)), (by (with_reducible repeat (first | apply Kd.R_alloc | apply Kd.R_drewN | apply Kd.R_drew)); exact Kd.R_mono HO_181002.out (fun _ hk => ⟨hk.1.2, ⟨hk.2, hk.1.1⟩⟩)), (by (with_reducible repeat (first | refine blk_drewN ?_ _ | refine blk_drew ?_ | refine blk_alloc ?_ _)); exact BK174.out), (by (with_reducible repeat (first | refine blk_drewN ?_ _ | refine blk_drew ?_ | refine blk_alloc ?_ _)); exact BK180.out), (by (with_reducible repeat (first | refine blk_drewN ?_ _ | refine blk_drew ?_ | refine blk_alloc ?_ _)); exact BK191.out), (by (with_reducible repeat (first | refine blk_drewN ?_ _ | refine blk_drew ?_ | refine blk_alloc ?_ _)); exact BK199.out), GW199.out, GE199.out, NB174_199.out, NB199_174.out, NB180_199.out, NB199_180.out, NB191_199.out, NB199_191.out, (by repeat (first | (with_reducible first | exact HB.out | apply below_alloc | apply pw_below_drewN | apply below_drew1 | refine below_set ?_ GE174.out | refine below_set ?_ GE180.out | refine below_set ?_ GE191.out | refine below_set ?_ GE199.out) | exact HB.out))⟩)
                                · skip
                                  refine box_step ?hg (N := 13) ?hd (cs := #[.int .u32 0, .int .u32 0, .slice none 0 0]) (t := 42) ?hr ?_; (case hd => rfl); (case hg => rfl); (case hr => first | (go_simp; done) | (go_simp; rfl))
                                  intro gb199 hg w48 hbox hb
                                  have n0_ := Aside0.mk (Kd.R_below (by (with_reducible repeat (first | apply Kd.R_alloc | apply Kd.R_drewN | apply Kd.R_drew)); exact HO_175003.out) hb)
                                  have n1_ := Aside0.mk (Kd.R_below (by (with_reducible repeat (first | apply Kd.R_alloc | apply Kd.R_drewN | apply Kd.R_drew)); exact HO_181002.out) hb)
                                  have n2_ := Aside0.mk (Kd.R_below (by (with_reducible repeat (first | apply Kd.R_alloc | apply Kd.R_drewN | apply Kd.R_drew)); exact HO187.out) hb)
                                  have n3_ := Aside0.mk (blk_below (g := gb174) (o := .cells #[.int .u32 x175000_2, .int .u32 x175001_2, .int .u32 x175002_2, .slice Ao34 x175003_2.length co34, .int .i64 x175004_2] 72 (0, 0)) (by (with_reducible repeat (first | refine blk_drewN ?_ _ | refine blk_drew ?_ | refine blk_alloc ?_ _)); exact BK174.out) hb)
                                  have n4_ := Aside0.mk (blk_below (g := gb180) (o := .cells #[.int .u32 x181000_2, .int .u32 x181001_2, .slice Ao45 x181002_2.length co45] 42 (0, 0)) (by (with_reducible repeat (first | refine blk_drewN ?_ _ | refine blk_drew ?_ | refine blk_alloc ?_ _)); exact BK180.out) hb)
                                  have n5_ := Aside0.mk (blk_below (g := gb191) (o := .cells #[.int .u32 t182, .int .u32 t183, .int .u32 t184, .slice Ao42 t185.length co42, .int .i64 t188] 72 (0, 0)) (by (with_reducible repeat (first | refine blk_drewN ?_ _ | refine blk_drew ?_ | refine blk_alloc ?_ _)); exact BK191.out) hb)
                                  have n6_ := Aside0.mk (below_step (by repeat (first | (with_reducible first | exact HB.out | apply below_alloc | apply pw_below_drewN | apply below_drew1 | refine below_set ?_ GE174.out | refine below_set ?_ GE180.out | refine below_set ?_ GE191.out) | exact HB.out)) hb)
                                  have n7_ := Aside0.mk (hbox)
                                  have n8_ := Aside0.mk ((by rw [hg]; exact (below_size (by repeat (first | (with_reducible first | exact HB.out | apply below_alloc | apply pw_below_drewN | apply below_drew1 | refine below_set ?_ GE174.out | refine below_set ?_ GE180.out | refine below_set ?_ GE191.out) | exact HB.out))) : w.heap.size ≤ gb199))
                                  have n9_ := Aside0.mk ((by rw [hg]; exact (below_size (by repeat (first | (with_reducible first | exact HB.out | apply below_alloc | apply pw_below_drewN | apply below_drew1 | refine below_set ?_ GE174.out | refine below_set ?_ GE180.out | refine below_set ?_ GE191.out) | exact HB.out))) : w.heap.size ≤ gb199))
                                  have n10_ := Aside0.mk ((by rw [hg]; exact Nat.ne_of_lt (blk_lt (g := gb174) (o := .cells #[.int .u32 x175000_2, .int .u32 x175001_2, .int .u32 x175002_2, .slice Ao34 x175003_2.length co34, .int .i64 x175004_2] 72 (0, 0)) (by (with_reducible repeat (first | refine blk_drewN ?_ _ | refine blk_drew ?_ | refine blk_alloc ?_ _)); exact BK174.out)) : gb174 ≠ gb199))
                                  have n11_ := Aside0.mk ((by rw [hg]; exact Nat.ne_of_gt (blk_lt (g := gb174) (o := .cells #[.int .u32 x175000_2, .int .u32 x175001_2, .int .u32 x175002_2, .slice Ao34 x175003_2.length co34, .int .i64 x175004_2] 72 (0, 0)) (by (with_reducible repeat (first | refine blk_drewN ?_ _ | refine blk_drew ?_ | refine blk_alloc ?_ _)); exact BK174.out)) : gb199 ≠ gb174))
                                  have n12_ := Aside0.mk ((by rw [hg]; exact Nat.ne_of_lt (blk_lt (g := gb180) (o := .cells #[.int .u32 x181000_2, .int .u32 x181001_2, .slice Ao45 x181002_2.length co45] 42 (0, 0)) (by (with_reducible repeat (first | refine blk_drewN ?_ _ | refine blk_drew ?_ | refine blk_alloc ?_ _)); exact BK180.out)) : gb180 ≠ gb199))
                                  have n13_ := Aside0.mk ((by rw [hg]; exact Nat.ne_of_gt (blk_lt (g := gb180) (o := .cells #[.int .u32 x181000_2, .int .u32 x181001_2, .slice Ao45 x181002_2.length co45] 42 (0, 0)) (by (with_reducible repeat (first | refine blk_drewN ?_ _ | refine blk_drew ?_ | refine blk_alloc ?_ _)); exact BK180.out)) : gb199 ≠ gb180))
                                  have n14_ := Aside0.mk ((by rw [hg]; exact Nat.ne_of_lt (blk_lt (g := gb191) (o := .cells #[.int .u32 t182, .int .u32 t183, .int .u32 t184, .slice Ao42 t185.length co42, .int .i64 t188] 72 (0, 0)) (by (with_reducible repeat (first | refine blk_drewN ?_ _ | refine blk_drew ?_ | refine blk_alloc ?_ _)); exact BK191.out)) : gb191 ≠ gb199))
                                  have n15_ := Aside0.mk ((by rw [hg]; exact Nat.ne_of_gt (blk_lt (g := gb191) (o := .cells #[.int .u32 t182, .int .u32 t183, .int .u32 t184, .slice Ao42 t185.length co42, .int .i64 t188] 72 (0, 0)) (by (with_reducible repeat (first | refine blk_drewN ?_ _ | refine blk_drew ?_ | refine blk_alloc ?_ _)); exact BK191.out)) : gb199 ≠ gb191))
                                  clear HO_175003
                                  clear HO_181002
                                  clear HO187
                                  clear BK174
                                  clear BK180
                                  clear BK191
                                  clear HB
                                  have HO_175003 := n0_
                                  have HO_181002 := n1_
                                  have HO187 := n2_
                                  have BK174 := n3_
                                  have BK180 := n4_
                                  have BK191 := n5_
                                  have HB := n6_
                                  have BK199 := n7_
                                  have GW199 := n8_
                                  have GE199 := n9_
                                  have NB174_199 := n10_
                                  have NB199_174 := n11_
                                  have NB180_199 := n12_
                                  have NB199_180 := n13_
                                  have NB191_199 := n14_
                                  have NB199_191 := n15_
                                  clear n0_ n1_ n2_ n3_ n4_ n5_ n6_ n7_ n8_ n9_ n10_ n11_ n12_ n13_ n14_ n15_
                                  clear hb hbox hg
                                  refine hK.out _ _ ⟨(blk_cell BK180.out 0).trans rfl, (blk_cell BK180.out 1).trans rfl, (blk_cell BK180.out 2).trans rfl, ((HB.out.cell (World.block_lt_of_cell? w _ hw192_0)).trans hw192_0)⟩ (fun hHeld => ?_)
                                  clear hK K
                                  refine norm_ (a' := ?_) ?_ ?_
                                  rotate_left
                                  · show Act.put _ (some 13) _ = _
                                    simp only [Act.put, List.setIfInBounds_toArray, List.set_cons_zero, List.set_cons_succ, i64_w, i32_w]
                                    rfl
                                  refine one_ (i := 6) (N := some 70) #[true, true, true, true, true, true, true, false, false, false, true, false, false] rfl rfl (one_of HT_.out (by kernel_rfl)) (by decide) (fun K hK => ?_)
                                  refine goes_ Try.func30 (by kernel_rfl) rfl #[.agg #[.int .u32 x181000_2, .int .u32 x181001_2, .slice Ao45 x181002_2.length co45], .int .i64 (rd l1 x9_2), .bool t189] (by rfl) rfl rfl (by (try simp only [List.map_toArray, List.map_cons, List.map_nil]); first | done | rfl | (simp only [List.length_drop, List.length_take]; rfl)) ?_
                                  with_reducible refine (encoder_Put.calls k2 x181000_2 x181001_2 _ _ x181002_2 (rd l1 x9_2) t189 t193 t194 t195 t198 _ ?side1 ?side2 A26.out).mono ?_
                                  (case side1 => repeat (first | exact (Kd.R_reads' HO_181002.out).2.2 | (with_reducible refine Kd.C_alloc ?_ _) | (with_reducible refine Kd.C_drewN ?_ _) | (with_reducible refine Kd.C_drew ?_)))
                                  (case side2 => exact (Kd.R_reads' HO_181002.out).2.1)
                                  rintro e w49 ⟨v196, rfl, ho0, hb⟩
                                  refine ⟨_, rfl, ?_⟩
                                  have n0_ := Aside0.mk (Kd.R_elder' (by (with_reducible repeat (first | apply Kd.R_alloc | apply Kd.R_drewN | apply Kd.R_drew)); exact HO_175003.out) (Kd.R_base ho0) hb)
                                  have n1_ := Aside0.mk (Kd.R_elder' (by (with_reducible repeat (first | apply Kd.R_alloc | apply Kd.R_drewN | apply Kd.R_drew)); exact HO_181002.out) (Kd.R_base ho0) hb)
                                  have n2_ := Aside0.mk (Kd.R_elder' (by (with_reducible repeat (first | apply Kd.R_alloc | apply Kd.R_drewN | apply Kd.R_drew)); exact HO187.out) (Kd.R_base ho0) hb)
                                  have n3_ := Aside0.mk (Kd.R_lower (Kd.R_new' (Kd.R_new' (Kd.R_new' ho0 (Kd.R_lt (by (with_reducible repeat (first | apply Kd.R_alloc | apply Kd.R_drewN | apply Kd.R_drew)); exact HO_175003.out))) (Kd.R_lt (by (with_reducible repeat (first | apply Kd.R_alloc | apply Kd.R_drewN | apply Kd.R_drew)); exact HO_181002.out))) (Kd.R_lt (by (with_reducible repeat (first | apply Kd.R_alloc | apply Kd.R_drewN | apply Kd.R_drew)); exact HO187.out))) (below_size (by repeat (first | (with_reducible first | exact HB.out | apply below_alloc | apply pw_below_drewN | apply below_drew1 | refine below_set ?_ GE174.out | refine below_set ?_ GE180.out | refine below_set ?_ GE191.out | refine below_set ?_ GE199.out) | exact HB.out))))
                                  have n4_ := Aside0.mk (blk_below (g := gb174) (o := .cells #[.int .u32 x175000_2, .int .u32 x175001_2, .int .u32 x175002_2, .slice Ao34 x175003_2.length co34, .int .i64 x175004_2] 72 (0, 0)) (by (with_reducible repeat (first | refine blk_drewN ?_ _ | refine blk_drew ?_ | refine blk_alloc ?_ _)); exact BK174.out) hb)
                                  have n5_ := Aside0.mk (blk_below (g := gb180) (o := .cells #[.int .u32 x181000_2, .int .u32 x181001_2, .slice Ao45 x181002_2.length co45] 42 (0, 0)) (by (with_reducible repeat (first | refine blk_drewN ?_ _ | refine blk_drew ?_ | refine blk_alloc ?_ _)); exact BK180.out) hb)
                                  have n6_ := Aside0.mk (blk_below (g := gb191) (o := .cells #[.int .u32 t182, .int .u32 t183, .int .u32 t184, .slice Ao42 t185.length co42, .int .i64 t188] 72 (0, 0)) (by (with_reducible repeat (first | refine blk_drewN ?_ _ | refine blk_drew ?_ | refine blk_alloc ?_ _)); exact BK191.out) hb)
                                  have n7_ := Aside0.mk (blk_below (g := gb199) (o := .cells #[.int .u32 0, .int .u32 0, .slice none 0 0] 42 (0, 0)) (by (with_reducible repeat (first | refine blk_drewN ?_ _ | refine blk_drew ?_ | refine blk_alloc ?_ _)); exact BK199.out) hb)
                                  have n8_ := Aside0.mk (below_step (by repeat (first | (with_reducible first | exact HB.out | apply below_alloc | apply pw_below_drewN | apply below_drew1 | refine below_set ?_ GE174.out | refine below_set ?_ GE180.out | refine below_set ?_ GE191.out | refine below_set ?_ GE199.out) | exact HB.out)) hb)
                                  clear HO_175003
                                  clear HO_181002
                                  clear HO187
                                  clear BK174
                                  clear BK180
                                  clear BK191
                                  clear BK199
                                  clear HB
                                  have HO_175003 := n0_
                                  have HO_181002 := n1_
                                  have HO187 := n2_
                                  have HO197 := n3_
                                  have BK174 := n4_
                                  have BK180 := n5_
                                  have BK191 := n6_
                                  have BK199 := n7_
                                  have HB := n8_
                                  clear n0_ n1_ n2_ n3_ n4_ n5_ n6_ n7_ n8_
                                  (try clear hb)
                                  (try clear hb2)
                                  (try clear hk)
                                  (try clear hi)
                                  (try clear ho0)
                                  refine hK.out _ _ ⟨(blk_cell BK180.out 0).trans rfl, (blk_cell BK180.out 1).trans rfl, (blk_cell BK180.out 2).trans rfl, ((HB.out.cell (World.block_lt_of_cell? w _ hw192_0)).trans hw192_0)⟩ (fun hHeld => ?_)
                                  clear hK K
                                  refine norm_ (a' := ?_) ?_ ?_
                                  rotate_left
                                  · show Act.put _ (some 70) _ = _
                                    simp only [Act.put, List.setIfInBounds_toArray, List.set_cons_zero, List.set_cons_succ, i64_w, i32_w]
                                    rfl
                                  refine pure_ (i := 7) (N := some 63) (v := ?_) (a' := ?_) #[true, true, true, true, true, true, true, true, false, false, true, false, false] rfl rfl (any_of HT_.out (by kernel_rfl)) (fun _ _ _ h => h) (Or.inl ⟨by rfl, ?_⟩) ?_ ?_
                                  rotate_left
                                  · intro w'
                                    go_simp
                                    with_reducible rfl
                                  rotate_left
                                  · simp only [Act.put, List.setIfInBounds_toArray, List.set_cons_zero, List.set_cons_succ, i64_w, i32_w]
                                    rfl
                                  refine pure_ (i := 8) (N := some 71) (v := ?_) (a' := ?_) #[true, true, true, true, true, true, true, true, true, false, true, false, false] rfl rfl (any_of HT_.out (by kernel_rfl)) (fun _ _ _ h => h) (Or.inl ⟨by rfl, ?_⟩) ?_ ?_
                                  rotate_left
                                  · intro w'
                                    go_simp
                                    with_reducible rfl
                                  rotate_left
                                  · simp only [Act.put, List.setIfInBounds_toArray, List.set_cons_zero, List.set_cons_succ, i64_w, i32_w]
                                    rfl
                                  refine pure_ (i := 9) (N := some 72) (v := ?_) (a' := ?_) #[true, true, true, true, true, true, true, true, true, true, true, false, false] rfl rfl (any_of HT_.out (by kernel_rfl)) (fun _ _ _ h => h) (Or.inl ⟨by rfl, ?_⟩) ?_ ?_
                                  rotate_left
                                  · intro w'
                                    go_simp
                                    with_reducible rfl
                                  rotate_left
                                  · simp only [Act.put, List.setIfInBounds_toArray, List.set_cons_zero, List.set_cons_succ, i64_w, i32_w]
                                    rfl
                                  exact norm_ (by simp only [putAll, Act.put, List.setIfInBounds_toArray, List.set_cons_zero, List.set_cons_succ]) (hCont (v196, gb199) _ ⟨hHeld, (by (with_reducible repeat (first | apply Kd.R_alloc | apply Kd.R_drewN | apply Kd.R_drew)); exact Kd.R_mono HO187.out (fun _ hk => by first | exact ⟨hk.2, ⟨hk.1.1, hk.1.2⟩⟩ | exact hk | exact hk.1 | exact hk.2 | exact hk.1.1 | exact hk.1.2)), (by (with_reducible repeat (first | apply Kd.R_alloc | apply Kd.R_drewN | apply Kd.R_drew)); exact Kd.R_mono HO197.out (fun _ hk => by first | exact ⟨hk.2, ⟨hk.1.1.2, hk.1.2⟩⟩ | exact hk | exact hk.1 | exact hk.2 | exact hk.1.1 | exact hk.1.2)), (by (with_reducible repeat (first | apply Kd.R_alloc | apply Kd.R_drewN | apply Kd.R_drew)); exact Kd.R_mono HO_175003.out (fun _ hk => ⟨hk.1.2, ⟨hk.2, hk.1.1⟩⟩)), (by (with_reducible repeat (first | apply Kd.R_alloc | apply Kd.R_drewN | apply Kd.R_drew)); exact Kd.R_mono HO_181002.out (fun _ hk => ⟨hk.1.2, ⟨hk.2, hk.1.1⟩⟩)), (by (with_reducible repeat (first | refine blk_drewN ?_ _ | refine blk_drew ?_ | refine blk_alloc ?_ _)); exact BK174.out), (by (with_reducible repeat (first | refine blk_drewN ?_ _ | refine blk_drew ?_ | refine blk_alloc ?_ _)); exact BK180.out), (by (with_reducible repeat (first | refine blk_drewN ?_ _ | refine blk_drew ?_ | refine blk_alloc ?_ _)); exact BK191.out), (by (with_reducible repeat (first | refine blk_drewN ?_ _ | refine blk_drew ?_ | refine blk_alloc ?_ _)); exact BK199.out), GW199.out, GE199.out, NB174_199.out, NB199_174.out, NB180_199.out, NB199_180.out, NB191_199.out, NB199_191.out, (by repeat (first | (with_reducible first | exact HB.out | apply below_alloc | apply pw_below_drewN | apply below_drew1 | refine below_set ?_ GE174.out | refine below_set ?_ GE180.out | refine below_set ?_ GE191.out | refine below_set ?_ GE199.out) | exact HB.out))⟩)
                              rintro ⟨v196, gb199⟩ w50 ⟨hS_, h0_, h1_, h2_, h3_, h4_, h5_, h6_, h7_, h8_, h9_, h10_, h11_, h12_, h13_, h14_, h15_, h16_⟩
                              have n0_ : Aside0 (Kd.R (Kd.int .u8) 5 w50 w.heap.size (fun k_ => some k_ ≠ (v196 : Value).ownBlock ∧ some k_ ≠ (.slice Ao34 x175003_2.length co34 : Value).ownBlock ∧ some k_ ≠ (.slice Ao45 x181002_2.length co45 : Value).ownBlock) (.slice Ao42 t185.length co42) t185) := ⟨h0_⟩
                              have n1_ : Aside0 (Kd.R (Kd.int .u8) 5 w50 w.heap.size (fun k_ => some k_ ≠ (.slice Ao42 t185.length co42 : Value).ownBlock ∧ some k_ ≠ (.slice Ao34 x175003_2.length co34 : Value).ownBlock ∧ some k_ ≠ (.slice Ao45 x181002_2.length co45 : Value).ownBlock) v196 t195) := ⟨h1_⟩
                              have n2_ : Aside0 (Kd.R (Kd.int .u8) 5 w50 w.heap.size (fun k_ => some k_ ≠ (.slice Ao42 t185.length co42 : Value).ownBlock ∧ some k_ ≠ (v196 : Value).ownBlock ∧ some k_ ≠ (.slice Ao45 x181002_2.length co45 : Value).ownBlock) (.slice Ao34 x175003_2.length co34) x175003_2) := ⟨h2_⟩
                              have n3_ : Aside0 (Kd.R (Kd.int .u8) 5 w50 w.heap.size (fun k_ => some k_ ≠ (.slice Ao42 t185.length co42 : Value).ownBlock ∧ some k_ ≠ (v196 : Value).ownBlock ∧ some k_ ≠ (.slice Ao34 x175003_2.length co34 : Value).ownBlock) (.slice Ao45 x181002_2.length co45) x181002_2) := ⟨h3_⟩
                              have n4_ : Aside0 (w50.heap[gb174]? = some (.cells #[.int .u32 x175000_2, .int .u32 x175001_2, .int .u32 x175002_2, .slice Ao34 x175003_2.length co34, .int .i64 x175004_2] 72 (0, 0))) := ⟨h4_⟩
                              have n5_ : Aside0 (w50.heap[gb180]? = some (.cells #[.int .u32 x181000_2, .int .u32 x181001_2, .slice Ao45 x181002_2.length co45] 42 (0, 0))) := ⟨h5_⟩
                              have n6_ : Aside0 (w50.heap[gb191]? = some (.cells #[.int .u32 t182, .int .u32 t183, .int .u32 t184, .slice Ao42 t185.length co42, .int .i64 t188] 72 (0, 0))) := ⟨h6_⟩
                              have n7_ : Aside0 (w50.heap[gb199]? = some (.cells #[.int .u32 0, .int .u32 0, .slice none 0 0] 42 (0, 0))) := ⟨h7_⟩
                              have n8_ : Aside0 (w.heap.size ≤ gb199) := ⟨h8_⟩
                              have n9_ : Aside0 (w.heap.size ≤ gb199) := ⟨h9_⟩
                              have n10_ : Aside0 (gb174 ≠ gb199) := ⟨h10_⟩
                              have n11_ : Aside0 (gb199 ≠ gb174) := ⟨h11_⟩
                              have n12_ : Aside0 (gb180 ≠ gb199) := ⟨h12_⟩
                              have n13_ : Aside0 (gb199 ≠ gb180) := ⟨h13_⟩
                              have n14_ : Aside0 (gb191 ≠ gb199) := ⟨h14_⟩
                              have n15_ : Aside0 (gb199 ≠ gb191) := ⟨h15_⟩
                              have n16_ : Aside0 (Below w.heap.size w w50) := ⟨h16_⟩
                              clear HO_175003
                              clear HO_181002
                              clear HO187
                              clear BK174
                              clear BK180
                              clear BK191
                              clear HB
                              clear h0_ h1_ h2_ h3_ h4_ h5_ h6_ h7_ h8_ h9_ h10_ h11_ h12_ h13_ h14_ h15_ h16_
                              have HO187 := n0_
                              have HO197 := n1_
                              have HO_175003 := n2_
                              have HO_181002 := n3_
                              have BK174 := n4_
                              have BK180 := n5_
                              have BK191 := n6_
                              have BK199 := n7_
                              have GW199 := n8_
                              have GE199 := n9_
                              have NB174_199 := n10_
                              have NB199_174 := n11_
                              have NB180_199 := n12_
                              have NB199_180 := n13_
                              have NB191_199 := n14_
                              have NB199_191 := n15_
                              have HB := n16_
                              clear n0_ n1_ n2_ n3_ n4_ n5_ n6_ n7_ n8_ n9_ n10_ n11_ n12_ n13_ n14_ n15_ n16_
                              have hHeld : w50.cell? ⟨gb180, 0, none⟩ = some (.int .u32 x181000_2) ∧ w50.cell? ⟨gb180, 1, none⟩ = some (.int .u32 x181001_2) ∧ w50.cell? ⟨gb180, 2, none⟩ = some (.slice Ao45 x181002_2.length co45) ∧ w50.cell? (ad181.add (x9_2).toNat) = some (.int .i64 (rd l1 x9_2)) := hS_
                              obtain ⟨Ao53, co53, eo53⟩ := Kd.R_slice HO197.out
                              (first | subst eo53 | (injection eo53 with f1_ f2_ f3_; have f4_ := f1_.symm; have f5_ := f3_.symm; clear f1_ f2_ f3_; subst f4_; subst f5_))
                              refine norm_ (a' := ?_) ?_ ?_
                              rotate_left
                              · simp only [putAll, Act.put, List.setIfInBounds_toArray, List.set_cons_zero, List.set_cons_succ]
                                rfl
                              refine one_ (i := 11) (N := none) #[true, true, true, true, true, true, true, true, true, true, true, true, false] rfl rfl (one_of HT_.out (by kernel_rfl)) (by decide) (fun K hK => ?_)
                              have hs51 : w50.cell? ⟨gb199, 0, none⟩ = some (.int .u32 0) := (blk_cell BK199.out 0).trans rfl
                              have hfs51 := blk_frozen BK199.out 0
                              have hns51_0 := NB174_199.out
                              have hns51_1 := NB180_199.out
                              have hns51_2 := NB191_199.out
                              have hms51_0 := NB199_174.out
                              have hms51_1 := NB199_180.out
                              have hms51_2 := NB199_191.out
                              have hs52 : w50.cell? ⟨gb199, 1, none⟩ = some (.int .u32 0) := (blk_cell BK199.out 1).trans rfl
                              have hfs52 := blk_frozen BK199.out 1
                              have hns52_0 := NB174_199.out
                              have hns52_1 := NB180_199.out
                              have hns52_2 := NB191_199.out
                              have hms52_0 := NB199_174.out
                              have hms52_1 := NB199_180.out
                              have hms52_2 := NB199_191.out
                              have hs54 : w50.cell? ⟨gb199, 2, none⟩ = some (.slice none 0 0) := (blk_cell BK199.out 2).trans rfl
                              have hfs54 := blk_frozen BK199.out 2
                              have hns54_0 := NB174_199.out
                              have hns54_1 := NB180_199.out
                              have hns54_2 := NB191_199.out
                              have hms54_0 := NB199_174.out
                              have hms54_1 := NB199_180.out
                              have hms54_2 := NB199_191.out
                              refine skip_ (w1 := ?_) (by rfl) rfl ?_ ?_
                              rotate_left
                              · go_simp
                                rfl
                              refine hK.out _ _ ⟨((cell_far (p := ⟨gb199, _, none⟩) NB180_199.out _).trans (((cell_far (p := ⟨gb199, _, none⟩) NB180_199.out _).trans (((cell_far (p := ⟨gb199, _, none⟩) NB180_199.out _).trans (hHeld.1)))))), ((cell_far (p := ⟨gb199, _, none⟩) NB180_199.out _).trans (((cell_far (p := ⟨gb199, _, none⟩) NB180_199.out _).trans (((cell_far (p := ⟨gb199, _, none⟩) NB180_199.out _).trans (hHeld.2.1)))))), ((cell_far (p := ⟨gb199, _, none⟩) NB180_199.out _).trans (((cell_far (p := ⟨gb199, _, none⟩) NB180_199.out _).trans (((cell_far (p := ⟨gb199, _, none⟩) NB180_199.out _).trans (hHeld.2.2.1)))))), ((cell_far (p := ⟨gb199, _, none⟩) (by first | exact Nat.ne_of_lt (Nat.lt_of_lt_of_le (by have := World.block_lt_of_cell? _ _ hw192_0; first | rwa [add_block] at this | exact this) GW199.out) | (rw [add_block]; exact Nat.ne_of_lt (Nat.lt_of_lt_of_le (by have := World.block_lt_of_cell? _ _ hw192_0; first | rwa [add_block] at this | exact this) GW199.out)) | (show (Addr.add _ _).block ≠ _; rw [add_block]; exact Nat.ne_of_lt (Nat.lt_of_lt_of_le (by have := World.block_lt_of_cell? _ _ hw192_0; first | rwa [add_block] at this | exact this) GW199.out)) | (dsimp only; exact Nat.ne_of_lt (Nat.lt_of_lt_of_le (by have := World.block_lt_of_cell? _ _ hw192_0; first | rwa [add_block] at this | exact this) GW199.out))) _).trans (((cell_far (p := ⟨gb199, _, none⟩) (by first | exact Nat.ne_of_lt (Nat.lt_of_lt_of_le (by have := World.block_lt_of_cell? _ _ hw192_0; first | rwa [add_block] at this | exact this) GW199.out) | (rw [add_block]; exact Nat.ne_of_lt (Nat.lt_of_lt_of_le (by have := World.block_lt_of_cell? _ _ hw192_0; first | rwa [add_block] at this | exact this) GW199.out)) | (show (Addr.add _ _).block ≠ _; rw [add_block]; exact Nat.ne_of_lt (Nat.lt_of_lt_of_le (by have := World.block_lt_of_cell? _ _ hw192_0; first | rwa [add_block] at this | exact this) GW199.out)) | (dsimp only; exact Nat.ne_of_lt (Nat.lt_of_lt_of_le (by have := World.block_lt_of_cell? _ _ hw192_0; first | rwa [add_block] at this | exact this) GW199.out))) _).trans (((cell_far (p := ⟨gb199, _, none⟩) (by first | exact Nat.ne_of_lt (Nat.lt_of_lt_of_le (by have := World.block_lt_of_cell? _ _ hw192_0; first | rwa [add_block] at this | exact this) GW199.out) | (rw [add_block]; exact Nat.ne_of_lt (Nat.lt_of_lt_of_le (by have := World.block_lt_of_cell? _ _ hw192_0; first | rwa [add_block] at this | exact this) GW199.out)) | (show (Addr.add _ _).block ≠ _; rw [add_block]; exact Nat.ne_of_lt (Nat.lt_of_lt_of_le (by have := World.block_lt_of_cell? _ _ hw192_0; first | rwa [add_block] at this | exact this) GW199.out)) | (dsimp only; exact Nat.ne_of_lt (Nat.lt_of_lt_of_le (by have := World.block_lt_of_cell? _ _ hw192_0; first | rwa [add_block] at this | exact this) GW199.out))) _).trans (hHeld.2.2.2))))))⟩ (fun hHeld => ?_)
                              clear hK K
                              refine pure_ (i := 12) (N := some 14) (v := ?_) (a' := ?_) #[true, true, true, true, true, true, true, true, true, true, true, true, true] rfl rfl (any_of HT_.out (by kernel_rfl)) (fun _ _ _ h => h) (Or.inl ⟨by rfl, ?_⟩) ?_ ?_
                              rotate_left
                              · intro w'
                                go_simp
                                with_reducible rfl
                              rotate_left
                              · simp only [Act.put, List.setIfInBounds_toArray, List.set_cons_zero, List.set_cons_succ, i64_w, i32_w]
                                rfl
                              refine done_ (done_of HT_.out (by kernel_rfl)) ?_
                              have hnb55 := NB191_174.out
                              have hnc55 := NB174_191.out
                              have hnb56 := NB191_180.out
                              have hnc56 := NB180_191.out
                              have hnb57 := NB191_199.out
                              have hnc57 := NB199_191.out
                              have hcz58_0 : w50.cell? ⟨gb191, 0, none⟩ = some (.int .u32 t182) := (blk_cell BK191.out 0).trans rfl
                              have hcz58_1 : w50.cell? ⟨gb191, 1, none⟩ = some (.int .u32 t183) := (blk_cell BK191.out 1).trans rfl
                              have hcz58_2 : w50.cell? ⟨gb191, 2, none⟩ = some (.int .u32 t184) := (blk_cell BK191.out 2).trans rfl
                              have hcz58_3 : w50.cell? ⟨gb191, 3, none⟩ = some (.slice Ao42 t185.length co42) := (blk_cell BK191.out 3).trans rfl
                              have hcz58_4 : w50.cell? ⟨gb191, 4, none⟩ = some (.int .i64 t188) := (blk_cell BK191.out 4).trans rfl
                              have hfz58_0 := blk_frozen BK191.out 0
                              have hfz58_1 := blk_frozen BK191.out 1
                              have hfz58_2 := blk_frozen BK191.out 2
                              have hfz58_3 := blk_frozen BK191.out 3
                              have hfz58_4 := blk_frozen BK191.out 4
                              try go_wp2_with (first | (go_at_call 56; (with_reducible refine (bitloftref21_Check.calls k2 t182 t183 t184 _ _ t185 t188 t200 _ ?side1 ?side2 A29.out).mono ?_); (case side1 => refine (Kd.R_reads' (e := 5) (base := w.heap.size) (ok := fun k_ => (some k_ ≠ (.slice Ao53 t195.length co53 : Value).ownBlock ∧ (some k_ ≠ (.slice Ao34 x175003_2.length co34 : Value).ownBlock ∧ some k_ ≠ (.slice Ao45 x181002_2.length co45 : Value).ownBlock))) (n := t185.length) (c := co42) ?_).2.2; exact (by (with_reducible repeat (first | apply Kd.R_alloc | apply Kd.R_drewN | apply Kd.R_drew)); exact (Kd.R_mono (Kd.R_far (p := ⟨gb199, 2, none⟩) (Kd.R_far (p := ⟨gb199, 1, none⟩) (Kd.R_far (p := ⟨gb199, 0, none⟩) (Kd.R_types HO187.out BK199.out (by decide)) (fun _ hk => hk.2) (.int .u32 t193)) (fun _ hk => hk.2) (.int .u32 t194)) (fun _ hk => hk.2) (.slice Ao53 t195.length co53)) (fun _ h_ => h_.1)))); (case side2 => exact (Kd.R_reads' HO187.out).2.1); rintro e w59 ⟨rfl, hb⟩; have n0_ := Aside0.mk (Kd.R_below (by (with_reducible repeat (first | apply Kd.R_alloc | apply Kd.R_drewN | apply Kd.R_drew)); exact (Kd.R_mono (Kd.R_far (p := ⟨gb199, 2, none⟩) (Kd.R_far (p := ⟨gb199, 1, none⟩) (Kd.R_far (p := ⟨gb199, 0, none⟩) (Kd.R_types HO_175003.out BK199.out (by decide)) (fun _ hk => hk.2) (.int .u32 t193)) (fun _ hk => hk.2) (.int .u32 t194)) (fun _ hk => hk.2) (.slice Ao53 t195.length co53)) (fun _ h_ => h_.1))) hb); have n1_ := Aside0.mk (Kd.R_below (by (with_reducible repeat (first | apply Kd.R_alloc | apply Kd.R_drewN | apply Kd.R_drew)); exact (Kd.R_mono (Kd.R_far (p := ⟨gb199, 2, none⟩) (Kd.R_far (p := ⟨gb199, 1, none⟩) (Kd.R_far (p := ⟨gb199, 0, none⟩) (Kd.R_types HO_181002.out BK199.out (by decide)) (fun _ hk => hk.2) (.int .u32 t193)) (fun _ hk => hk.2) (.int .u32 t194)) (fun _ hk => hk.2) (.slice Ao53 t195.length co53)) (fun _ h_ => h_.1))) hb); have n2_ := Aside0.mk (Kd.R_below (by (with_reducible repeat (first | apply Kd.R_alloc | apply Kd.R_drewN | apply Kd.R_drew)); exact (Kd.R_mono (Kd.R_far (p := ⟨gb199, 2, none⟩) (Kd.R_far (p := ⟨gb199, 1, none⟩) (Kd.R_far (p := ⟨gb199, 0, none⟩) (Kd.R_types HO187.out BK199.out (by decide)) (fun _ hk => hk.2) (.int .u32 t193)) (fun _ hk => hk.2) (.int .u32 t194)) (fun _ hk => hk.2) (.slice Ao53 t195.length co53)) (fun _ h_ => h_.1))) hb); have n3_ := Aside0.mk (Kd.R_below (by (with_reducible repeat (first | apply Kd.R_alloc | apply Kd.R_drewN | apply Kd.R_drew)); exact (Kd.R_mono (Kd.R_far (p := ⟨gb199, 2, none⟩) (Kd.R_far (p := ⟨gb199, 1, none⟩) (Kd.R_far (p := ⟨gb199, 0, none⟩) (Kd.R_types HO197.out BK199.out (by decide)) (fun _ hk => hk.2) (.int .u32 t193)) (fun _ hk => hk.2) (.int .u32 t194)) (fun _ hk => hk.2) (.slice Ao53 t195.length co53)) (fun _ h_ => h_.1))) hb); have n4_ := Aside0.mk (blk_below (g := gb174) (o := .cells #[.int .u32 x175000_2, .int .u32 x175001_2, .int .u32 x175002_2, .slice Ao34 x175003_2.length co34, .int .i64 x175004_2] 72 (0, 0)) (by (with_reducible repeat (first | refine blk_drewN ?_ _ | refine blk_drew ?_ | refine blk_alloc ?_ _)); refine blk_far ?_ NB174_199.out _; (with_reducible repeat (first | refine blk_drewN ?_ _ | refine blk_drew ?_ | refine blk_alloc ?_ _)); refine blk_far ?_ NB174_199.out _; (with_reducible repeat (first | refine blk_drewN ?_ _ | refine blk_drew ?_ | refine blk_alloc ?_ _)); refine blk_far ?_ NB174_199.out _; (with_reducible repeat (first | refine blk_drewN ?_ _ | refine blk_drew ?_ | refine blk_alloc ?_ _)); exact BK174.out) hb); have n5_ := Aside0.mk (blk_below (g := gb180) (o := .cells #[.int .u32 x181000_2, .int .u32 x181001_2, .slice Ao45 x181002_2.length co45] 42 (0, 0)) (by (with_reducible repeat (first | refine blk_drewN ?_ _ | refine blk_drew ?_ | refine blk_alloc ?_ _)); refine blk_far ?_ NB180_199.out _; (with_reducible repeat (first | refine blk_drewN ?_ _ | refine blk_drew ?_ | refine blk_alloc ?_ _)); refine blk_far ?_ NB180_199.out _; (with_reducible repeat (first | refine blk_drewN ?_ _ | refine blk_drew ?_ | refine blk_alloc ?_ _)); refine blk_far ?_ NB180_199.out _; (with_reducible repeat (first | refine blk_drewN ?_ _ | refine blk_drew ?_ | refine blk_alloc ?_ _)); exact BK180.out) hb); have n6_ := Aside0.mk (blk_below (g := gb191) (o := .cells #[.int .u32 t182, .int .u32 t183, .int .u32 t184, .slice Ao42 t185.length co42, .int .i64 t188] 72 (0, 0)) (by (with_reducible repeat (first | refine blk_drewN ?_ _ | refine blk_drew ?_ | refine blk_alloc ?_ _)); refine blk_far ?_ NB191_199.out _; (with_reducible repeat (first | refine blk_drewN ?_ _ | refine blk_drew ?_ | refine blk_alloc ?_ _)); refine blk_far ?_ NB191_199.out _; (with_reducible repeat (first | refine blk_drewN ?_ _ | refine blk_drew ?_ | refine blk_alloc ?_ _)); refine blk_far ?_ NB191_199.out _; (with_reducible repeat (first | refine blk_drewN ?_ _ | refine blk_drew ?_ | refine blk_alloc ?_ _)); exact BK191.out) hb); have n7_ := Aside0.mk (blk_below (g := gb199) (o := .cells #[.int .u32 t193, .int .u32 t194, .slice Ao53 t195.length co53] 42 (0, 0)) (by (with_reducible repeat (first | refine blk_drewN ?_ _ | refine blk_drew ?_ | refine blk_alloc ?_ _)); refine blk_put (cs := #[.int .u32 t193, .int .u32 t194, .slice none 0 0]) ?_ 2 _ rfl; (with_reducible repeat (first | refine blk_drewN ?_ _ | refine blk_drew ?_ | refine blk_alloc ?_ _)); refine blk_put (cs := #[.int .u32 t193, .int .u32 0, .slice none 0 0]) ?_ 1 _ rfl; (with_reducible repeat (first | refine blk_drewN ?_ _ | refine blk_drew ?_ | refine blk_alloc ?_ _)); refine blk_put (cs := #[.int .u32 0, .int .u32 0, .slice none 0 0]) ?_ 0 _ rfl; (with_reducible repeat (first | refine blk_drewN ?_ _ | refine blk_drew ?_ | refine blk_alloc ?_ _)); exact BK199.out) hb); have n8_ := Aside0.mk (below_step (by repeat (first | (with_reducible first | exact HB.out | apply below_alloc | apply pw_below_drewN | apply below_drew1 | refine below_set ?_ GE174.out | refine below_set ?_ GE180.out | refine below_set ?_ GE191.out | refine below_set ?_ GE199.out) | exact HB.out)) hb); clear HO_175003; clear HO_181002; clear HO187; clear HO197; clear BK174; clear BK180; clear BK191; clear BK199; clear HB; have HO_175003 := n0_; have HO_181002 := n1_; have HO187 := n2_; have HO197 := n3_; have BK174 := n4_; have BK180 := n5_; have BK191 := n6_; have BK199 := n7_; have HB := n8_; clear n0_ n1_ n2_ n3_ n4_ n5_ n6_ n7_ n8_; (try clear hb); (try clear hb2); (try clear hk); (try clear hi); have hcz60_0 : w59.cell? ⟨gb191, 0, none⟩ = some (.int .u32 t182) := (blk_cell BK191.out 0).trans rfl; have hcz60_1 : w59.cell? ⟨gb191, 1, none⟩ = some (.int .u32 t183) := (blk_cell BK191.out 1).trans rfl; have hcz60_2 : w59.cell? ⟨gb191, 2, none⟩ = some (.int .u32 t184) := (blk_cell BK191.out 2).trans rfl; have hcz60_3 : w59.cell? ⟨gb191, 3, none⟩ = some (.slice Ao42 t185.length co42) := (blk_cell BK191.out 3).trans rfl; have hcz60_4 : w59.cell? ⟨gb191, 4, none⟩ = some (.int .i64 t188) := (blk_cell BK191.out 4).trans rfl; have hfz60_0 := blk_frozen BK191.out 0; have hfz60_1 := blk_frozen BK191.out 1; have hfz60_2 := blk_frozen BK191.out 2; have hfz60_3 := blk_frozen BK191.out 3; have hfz60_4 := blk_frozen BK191.out 4; have hnb61 := NB199_174.out; have hnc61 := NB174_199.out; have hnb62 := NB199_180.out; have hnc62 := NB180_199.out; have hcz63_0 : w59.cell? ⟨gb199, 0, none⟩ = some (.int .u32 t193) := (blk_cell BK199.out 0).trans rfl; have hcz63_1 : w59.cell? ⟨gb199, 1, none⟩ = some (.int .u32 t194) := (blk_cell BK199.out 1).trans rfl; have hcz63_2 : w59.cell? ⟨gb199, 2, none⟩ = some (.slice Ao53 t195.length co53) := (blk_cell BK199.out 2).trans rfl; have hfz63_0 := blk_frozen BK199.out 0; have hfz63_1 := blk_frozen BK199.out 1; have hfz63_2 := blk_frozen BK199.out 2))
                              have n0_ := Aside0.mk (Kd.R_drew HO_175003.out)
                              have n1_ := Aside0.mk (Kd.R_drew HO_181002.out)
                              have n2_ := Aside0.mk (Kd.R_drew HO187.out)
                              have n3_ := Aside0.mk (Kd.R_drew HO197.out)
                              have n4_ := Aside0.mk (blk_drew BK174.out)
                              have n5_ := Aside0.mk (blk_drew BK180.out)
                              have n6_ := Aside0.mk (blk_drew BK191.out)
                              have n7_ := Aside0.mk (blk_drew BK199.out)
                              have n8_ := Aside0.mk (below_drew1 HB.out)
                              clear HO_175003
                              clear HO_181002
                              clear HO187
                              clear HO197
                              clear BK174
                              clear BK180
                              clear BK191
                              clear BK199
                              clear HB
                              have HO_175003 := n0_
                              have HO_181002 := n1_
                              have HO187 := n2_
                              have HO197 := n3_
                              have BK174 := n4_
                              have BK180 := n5_
                              have BK191 := n6_
                              have BK199 := n7_
                              have HB := n8_
                              clear n0_ n1_ n2_ n3_ n4_ n5_ n6_ n7_ n8_
                              refine start_ (n := 4) (S := fun w' => w'.cell? ⟨gb191, 0, none⟩ = some (.int .u32 t182) ∧ w'.cell? ⟨gb191, 1, none⟩ = some (.int .u32 t183) ∧ w'.cell? ⟨gb191, 2, none⟩ = some (.int .u32 t184) ∧ w'.cell? ⟨gb191, 3, none⟩ = some (.slice Ao42 t185.length co42) ∧ w'.cell? ⟨gb191, 4, none⟩ = some (.int .i64 t188) ∧ w'.cell? ⟨gb199, 0, none⟩ = some (.int .u32 t193) ∧ w'.cell? ⟨gb199, 1, none⟩ = some (.int .u32 t194) ∧ w'.cell? ⟨gb199, 2, none⟩ = some (.slice Ao53 t195.length co53)) (ds := []) #[false, false, false, false] (by kernel_rfl) rfl rfl ⟨(blk_cell BK191.out 0).trans rfl, (blk_cell BK191.out 1).trans rfl, (blk_cell BK191.out 2).trans rfl, (blk_cell BK191.out 3).trans rfl, (blk_cell BK191.out 4).trans rfl, (blk_cell BK199.out 0).trans rfl, (blk_cell BK199.out 1).trans rfl, (blk_cell BK199.out 2).trans rfl⟩ (fun hHeld => ?_)
                              generalize w59.drew = w64 at HO_175003 HO_181002 HO187 HO197 BK174 BK180 BK191 BK199 HB hHeld ⊢
                              refine take_ (i := 0) (N := some 107) (v := ?_) (a' := ?_) #[true, false, false, false] rfl rfl (by kernel_rfl) (fun _ _ _ h => h) (Or.inl ⟨by rfl, ?_⟩) hHeld ?_ ?_
                              rotate_left
                              · rintro w' ⟨s0, s1, s2, s3, s4, s5, s6, s7⟩
                                go_simp
                                with_reducible rfl
                              rotate_left
                              · simp only [Act.put, List.setIfInBounds_toArray, List.set_cons_zero, List.set_cons_succ, i64_w, i32_w]
                                rfl
                              refine take_ (i := 1) (N := some 108) (v := ?_) (a' := ?_) #[true, true, false, false] rfl rfl (by kernel_rfl) (fun _ _ _ h => h) (Or.inl ⟨by rfl, ?_⟩) hHeld ?_ ?_
                              rotate_left
                              · rintro w' ⟨s0, s1, s2, s3, s4, s5, s6, s7⟩
                                go_simp
                                with_reducible rfl
                              rotate_left
                              · simp only [Act.put, List.setIfInBounds_toArray, List.set_cons_zero, List.set_cons_succ, i64_w, i32_w]
                                rfl
                              refine one_ (i := 2) (N := none) #[true, true, true, false] rfl rfl (by kernel_rfl) (by decide) (fun K hK => ?_)
                              have hs65 : w64.cell? ⟨gb174, 0, none⟩ = some (.int .u32 x175000_2) := (blk_cell BK174.out 0).trans rfl
                              have hfs65 := blk_frozen BK174.out 0
                              have hns65_1 := NB180_174.out
                              have hns65_2 := NB191_174.out
                              have hns65_3 := NB199_174.out
                              have hms65_1 := NB174_180.out
                              have hms65_2 := NB174_191.out
                              have hms65_3 := NB174_199.out
                              have hs66 : w64.cell? ⟨gb174, 1, none⟩ = some (.int .u32 x175001_2) := (blk_cell BK174.out 1).trans rfl
                              have hfs66 := blk_frozen BK174.out 1
                              have hns66_1 := NB180_174.out
                              have hns66_2 := NB191_174.out
                              have hns66_3 := NB199_174.out
                              have hms66_1 := NB174_180.out
                              have hms66_2 := NB174_191.out
                              have hms66_3 := NB174_199.out
                              have hs67 : w64.cell? ⟨gb174, 2, none⟩ = some (.int .u32 x175002_2) := (blk_cell BK174.out 2).trans rfl
                              have hfs67 := blk_frozen BK174.out 2
                              have hns67_1 := NB180_174.out
                              have hns67_2 := NB191_174.out
                              have hns67_3 := NB199_174.out
                              have hms67_1 := NB174_180.out
                              have hms67_2 := NB174_191.out
                              have hms67_3 := NB174_199.out
                              have hs68 : w64.cell? ⟨gb174, 3, none⟩ = some (.slice Ao34 x175003_2.length co34) := (blk_cell BK174.out 3).trans rfl
                              have hfs68 := blk_frozen BK174.out 3
                              have hns68_1 := NB180_174.out
                              have hns68_2 := NB191_174.out
                              have hns68_3 := NB199_174.out
                              have hms68_1 := NB174_180.out
                              have hms68_2 := NB174_191.out
                              have hms68_3 := NB174_199.out
                              have hs69 : w64.cell? ⟨gb174, 4, none⟩ = some (.int .i64 x175004_2) := (blk_cell BK174.out 4).trans rfl
                              have hfs69 := blk_frozen BK174.out 4
                              have hns69_1 := NB180_174.out
                              have hns69_2 := NB191_174.out
                              have hns69_3 := NB199_174.out
                              have hms69_1 := NB174_180.out
                              have hms69_2 := NB174_191.out
                              have hms69_3 := NB174_199.out
                              refine skip_ (w1 := ?_) (by rfl) rfl ?_ ?_
                              rotate_left
                              · go_simp
                                rfl
                              refine hK.out _ _ ⟨((cell_far (p := ⟨gb174, _, none⟩) NB191_174.out _).trans (((cell_far (p := ⟨gb174, _, none⟩) NB191_174.out _).trans (((cell_far (p := ⟨gb174, _, none⟩) NB191_174.out _).trans (((cell_far (p := ⟨gb174, _, none⟩) NB191_174.out _).trans (((cell_far (p := ⟨gb174, _, none⟩) NB191_174.out _).trans (hHeld.1)))))))))), ((cell_far (p := ⟨gb174, _, none⟩) NB191_174.out _).trans (((cell_far (p := ⟨gb174, _, none⟩) NB191_174.out _).trans (((cell_far (p := ⟨gb174, _, none⟩) NB191_174.out _).trans (((cell_far (p := ⟨gb174, _, none⟩) NB191_174.out _).trans (((cell_far (p := ⟨gb174, _, none⟩) NB191_174.out _).trans (hHeld.2.1)))))))))), ((cell_far (p := ⟨gb174, _, none⟩) NB191_174.out _).trans (((cell_far (p := ⟨gb174, _, none⟩) NB191_174.out _).trans (((cell_far (p := ⟨gb174, _, none⟩) NB191_174.out _).trans (((cell_far (p := ⟨gb174, _, none⟩) NB191_174.out _).trans (((cell_far (p := ⟨gb174, _, none⟩) NB191_174.out _).trans (hHeld.2.2.1)))))))))), ((cell_far (p := ⟨gb174, _, none⟩) NB191_174.out _).trans (((cell_far (p := ⟨gb174, _, none⟩) NB191_174.out _).trans (((cell_far (p := ⟨gb174, _, none⟩) NB191_174.out _).trans (((cell_far (p := ⟨gb174, _, none⟩) NB191_174.out _).trans (((cell_far (p := ⟨gb174, _, none⟩) NB191_174.out _).trans (hHeld.2.2.2.1)))))))))), ((cell_far (p := ⟨gb174, _, none⟩) NB191_174.out _).trans (((cell_far (p := ⟨gb174, _, none⟩) NB191_174.out _).trans (((cell_far (p := ⟨gb174, _, none⟩) NB191_174.out _).trans (((cell_far (p := ⟨gb174, _, none⟩) NB191_174.out _).trans (((cell_far (p := ⟨gb174, _, none⟩) NB191_174.out _).trans (hHeld.2.2.2.2.1)))))))))), ((cell_far (p := ⟨gb174, _, none⟩) NB199_174.out _).trans (((cell_far (p := ⟨gb174, _, none⟩) NB199_174.out _).trans (((cell_far (p := ⟨gb174, _, none⟩) NB199_174.out _).trans (((cell_far (p := ⟨gb174, _, none⟩) NB199_174.out _).trans (((cell_far (p := ⟨gb174, _, none⟩) NB199_174.out _).trans (hHeld.2.2.2.2.2.1)))))))))), ((cell_far (p := ⟨gb174, _, none⟩) NB199_174.out _).trans (((cell_far (p := ⟨gb174, _, none⟩) NB199_174.out _).trans (((cell_far (p := ⟨gb174, _, none⟩) NB199_174.out _).trans (((cell_far (p := ⟨gb174, _, none⟩) NB199_174.out _).trans (((cell_far (p := ⟨gb174, _, none⟩) NB199_174.out _).trans (hHeld.2.2.2.2.2.2.1)))))))))), ((cell_far (p := ⟨gb174, _, none⟩) NB199_174.out _).trans (((cell_far (p := ⟨gb174, _, none⟩) NB199_174.out _).trans (((cell_far (p := ⟨gb174, _, none⟩) NB199_174.out _).trans (((cell_far (p := ⟨gb174, _, none⟩) NB199_174.out _).trans (((cell_far (p := ⟨gb174, _, none⟩) NB199_174.out _).trans (hHeld.2.2.2.2.2.2.2))))))))))⟩ (fun hHeld => ?_)
                              clear hK K
                              refine one_ (i := 3) (N := none) #[true, true, true, true] rfl rfl (by kernel_rfl) (by decide) (fun K hK => ?_)
                              have hs70 : w64.cell? ⟨gb180, 0, none⟩ = some (.int .u32 x181000_2) := (blk_cell BK180.out 0).trans rfl
                              have hfs70 := blk_frozen BK180.out 0
                              have hns70_0 := NB174_180.out
                              have hns70_2 := NB191_180.out
                              have hns70_3 := NB199_180.out
                              have hms70_0 := NB180_174.out
                              have hms70_2 := NB180_191.out
                              have hms70_3 := NB180_199.out
                              have hs71 : w64.cell? ⟨gb180, 1, none⟩ = some (.int .u32 x181001_2) := (blk_cell BK180.out 1).trans rfl
                              have hfs71 := blk_frozen BK180.out 1
                              have hns71_0 := NB174_180.out
                              have hns71_2 := NB191_180.out
                              have hns71_3 := NB199_180.out
                              have hms71_0 := NB180_174.out
                              have hms71_2 := NB180_191.out
                              have hms71_3 := NB180_199.out
                              have hs72 : w64.cell? ⟨gb180, 2, none⟩ = some (.slice Ao45 x181002_2.length co45) := (blk_cell BK180.out 2).trans rfl
                              have hfs72 := blk_frozen BK180.out 2
                              have hns72_0 := NB174_180.out
                              have hns72_2 := NB191_180.out
                              have hns72_3 := NB199_180.out
                              have hms72_0 := NB180_174.out
                              have hms72_2 := NB180_191.out
                              have hms72_3 := NB180_199.out
                              refine skip_ (w1 := ?_) (by rfl) rfl ?_ ?_
                              rotate_left
                              · go_simp
                                rfl
                              refine hK.out _ _ ⟨((cell_far (p := ⟨gb180, _, none⟩) NB191_180.out _).trans (((cell_far (p := ⟨gb180, _, none⟩) NB191_180.out _).trans (((cell_far (p := ⟨gb180, _, none⟩) NB191_180.out _).trans (hHeld.1)))))), ((cell_far (p := ⟨gb180, _, none⟩) NB191_180.out _).trans (((cell_far (p := ⟨gb180, _, none⟩) NB191_180.out _).trans (((cell_far (p := ⟨gb180, _, none⟩) NB191_180.out _).trans (hHeld.2.1)))))), ((cell_far (p := ⟨gb180, _, none⟩) NB191_180.out _).trans (((cell_far (p := ⟨gb180, _, none⟩) NB191_180.out _).trans (((cell_far (p := ⟨gb180, _, none⟩) NB191_180.out _).trans (hHeld.2.2.1)))))), ((cell_far (p := ⟨gb180, _, none⟩) NB191_180.out _).trans (((cell_far (p := ⟨gb180, _, none⟩) NB191_180.out _).trans (((cell_far (p := ⟨gb180, _, none⟩) NB191_180.out _).trans (hHeld.2.2.2.1)))))), ((cell_far (p := ⟨gb180, _, none⟩) NB191_180.out _).trans (((cell_far (p := ⟨gb180, _, none⟩) NB191_180.out _).trans (((cell_far (p := ⟨gb180, _, none⟩) NB191_180.out _).trans (hHeld.2.2.2.2.1)))))), ((cell_far (p := ⟨gb180, _, none⟩) NB199_180.out _).trans (((cell_far (p := ⟨gb180, _, none⟩) NB199_180.out _).trans (((cell_far (p := ⟨gb180, _, none⟩) NB199_180.out _).trans (hHeld.2.2.2.2.2.1)))))), ((cell_far (p := ⟨gb180, _, none⟩) NB199_180.out _).trans (((cell_far (p := ⟨gb180, _, none⟩) NB199_180.out _).trans (((cell_far (p := ⟨gb180, _, none⟩) NB199_180.out _).trans (hHeld.2.2.2.2.2.2.1)))))), ((cell_far (p := ⟨gb180, _, none⟩) NB199_180.out _).trans (((cell_far (p := ⟨gb180, _, none⟩) NB199_180.out _).trans (((cell_far (p := ⟨gb180, _, none⟩) NB199_180.out _).trans (hHeld.2.2.2.2.2.2.2))))))⟩ (fun hHeld => ?_)
                              clear hK K
                              refine done_ (by kernel_rfl) ?_
                              try go_wp2
                              go_roundg k2
                              case measure => have := HJ3.out; have := HK2.out; omega
                              case rel => exact ⟨(wrap64 (x9_2 + 1)), (t182), (t183), (t184), (t185), (t188), (t193), (t194), (t195), (.slice Ao42 t185.length co42), (.slice Ao53 t195.length co53), (by first | rfl | (simp; done) | (simp [*]; done)), H', ⟨by have := HJ3.out; have := HK2.out; omega⟩, ⟨by (with_reducible repeat (first | apply Kd.R_alloc | apply Kd.R_drewN | apply Kd.R_drew)); exact Kd.R_mono (Kd.R_far (p := ⟨gb180, 2, none⟩) (Kd.R_far (p := ⟨gb180, 1, none⟩) (Kd.R_far (p := ⟨gb180, 0, none⟩) (Kd.R_far (p := ⟨gb174, 4, none⟩) (Kd.R_far (p := ⟨gb174, 3, none⟩) (Kd.R_far (p := ⟨gb174, 2, none⟩) (Kd.R_far (p := ⟨gb174, 1, none⟩) (Kd.R_far (p := ⟨gb174, 0, none⟩) (Kd.R_types (Kd.R_types HO187.out BK174.out (by decide)) BK180.out (by decide)) (fun _ hk => hk.1.2) (.int .u32 t182)) (fun _ hk => hk.1.2) (.int .u32 t183)) (fun _ hk => hk.1.2) (.int .u32 t184)) (fun _ hk => hk.1.2) (.slice Ao42 t185.length co42)) (fun _ hk => hk.1.2) (.int .i64 t188)) (fun _ hk => hk.2) (.int .u32 t193)) (fun _ hk => hk.2) (.int .u32 t194)) (fun _ hk => hk.2) (.slice Ao53 t195.length co53)) (fun _ hk => hk.1.1.1)⟩, ⟨by (with_reducible repeat (first | apply Kd.R_alloc | apply Kd.R_drewN | apply Kd.R_drew)); exact Kd.R_mono (Kd.R_far (p := ⟨gb180, 2, none⟩) (Kd.R_far (p := ⟨gb180, 1, none⟩) (Kd.R_far (p := ⟨gb180, 0, none⟩) (Kd.R_far (p := ⟨gb174, 4, none⟩) (Kd.R_far (p := ⟨gb174, 3, none⟩) (Kd.R_far (p := ⟨gb174, 2, none⟩) (Kd.R_far (p := ⟨gb174, 1, none⟩) (Kd.R_far (p := ⟨gb174, 0, none⟩) (Kd.R_types (Kd.R_types HO197.out BK174.out (by decide)) BK180.out (by decide)) (fun _ hk => hk.1.2) (.int .u32 t182)) (fun _ hk => hk.1.2) (.int .u32 t183)) (fun _ hk => hk.1.2) (.int .u32 t184)) (fun _ hk => hk.1.2) (.slice Ao42 t185.length co42)) (fun _ hk => hk.1.2) (.int .i64 t188)) (fun _ hk => hk.2) (.int .u32 t193)) (fun _ hk => hk.2) (.int .u32 t194)) (fun _ hk => hk.2) (.slice Ao53 t195.length co53)) (fun _ hk => hk.1.1.1)⟩, ⟨by (with_reducible repeat (first | refine blk_drewN ?_ _ | refine blk_drew ?_ | refine blk_alloc ?_ _)); refine blk_far ?_ NB174_180.out _; (with_reducible repeat (first | refine blk_drewN ?_ _ | refine blk_drew ?_ | refine blk_alloc ?_ _)); refine blk_far ?_ NB174_180.out _; (with_reducible repeat (first | refine blk_drewN ?_ _ | refine blk_drew ?_ | refine blk_alloc ?_ _)); refine blk_far ?_ NB174_180.out _; (with_reducible repeat (first | refine blk_drewN ?_ _ | refine blk_drew ?_ | refine blk_alloc ?_ _)); refine blk_put (cs := #[.int .u32 t182, .int .u32 t183, .int .u32 t184, .slice Ao42 t185.length co42, .int .i64 x175004_2]) ?_ 4 _ rfl; (with_reducible repeat (first | refine blk_drewN ?_ _ | refine blk_drew ?_ | refine blk_alloc ?_ _)); refine blk_put (cs := #[.int .u32 t182, .int .u32 t183, .int .u32 t184, .slice Ao34 x175003_2.length co34, .int .i64 x175004_2]) ?_ 3 _ rfl; (with_reducible repeat (first | refine blk_drewN ?_ _ | refine blk_drew ?_ | refine blk_alloc ?_ _)); refine blk_put (cs := #[.int .u32 t182, .int .u32 t183, .int .u32 x175002_2, .slice Ao34 x175003_2.length co34, .int .i64 x175004_2]) ?_ 2 _ rfl; (with_reducible repeat (first | refine blk_drewN ?_ _ | refine blk_drew ?_ | refine blk_alloc ?_ _)); refine blk_put (cs := #[.int .u32 t182, .int .u32 x175001_2, .int .u32 x175002_2, .slice Ao34 x175003_2.length co34, .int .i64 x175004_2]) ?_ 1 _ rfl; (with_reducible repeat (first | refine blk_drewN ?_ _ | refine blk_drew ?_ | refine blk_alloc ?_ _)); refine blk_put (cs := #[.int .u32 x175000_2, .int .u32 x175001_2, .int .u32 x175002_2, .slice Ao34 x175003_2.length co34, .int .i64 x175004_2]) ?_ 0 _ rfl; (with_reducible repeat (first | refine blk_drewN ?_ _ | refine blk_drew ?_ | refine blk_alloc ?_ _)); exact BK174.out⟩, ⟨by (with_reducible repeat (first | refine blk_drewN ?_ _ | refine blk_drew ?_ | refine blk_alloc ?_ _)); refine blk_put (cs := #[.int .u32 t193, .int .u32 t194, .slice Ao45 x181002_2.length co45]) ?_ 2 _ rfl; (with_reducible repeat (first | refine blk_drewN ?_ _ | refine blk_drew ?_ | refine blk_alloc ?_ _)); refine blk_put (cs := #[.int .u32 t193, .int .u32 x181001_2, .slice Ao45 x181002_2.length co45]) ?_ 1 _ rfl; (with_reducible repeat (first | refine blk_drewN ?_ _ | refine blk_drew ?_ | refine blk_alloc ?_ _)); refine blk_put (cs := #[.int .u32 x181000_2, .int .u32 x181001_2, .slice Ao45 x181002_2.length co45]) ?_ 0 _ rfl; (with_reducible repeat (first | refine blk_drewN ?_ _ | refine blk_drew ?_ | refine blk_alloc ?_ _)); refine blk_far ?_ NB180_174.out _; (with_reducible repeat (first | refine blk_drewN ?_ _ | refine blk_drew ?_ | refine blk_alloc ?_ _)); refine blk_far ?_ NB180_174.out _; (with_reducible repeat (first | refine blk_drewN ?_ _ | refine blk_drew ?_ | refine blk_alloc ?_ _)); refine blk_far ?_ NB180_174.out _; (with_reducible repeat (first | refine blk_drewN ?_ _ | refine blk_drew ?_ | refine blk_alloc ?_ _)); refine blk_far ?_ NB180_174.out _; (with_reducible repeat (first | refine blk_drewN ?_ _ | refine blk_drew ?_ | refine blk_alloc ?_ _)); refine blk_far ?_ NB180_174.out _; (with_reducible repeat (first | refine blk_drewN ?_ _ | refine blk_drew ?_ | refine blk_alloc ?_ _)); exact BK180.out⟩, ⟨by repeat (first | (with_reducible first | exact HB.out | apply below_alloc | apply pw_below_drewN | apply below_drew1 | refine below_set ?_ GE174.out | refine below_set ?_ GE180.out | refine below_set ?_ GE191.out | refine below_set ?_ GE199.out) | exact HB.out)⟩⟩
                            · rw [if_neg c33] at H
                              exact absurd H (by simp)
                          · rw [if_neg c32] at H
                            exact absurd H (by simp)
                        · rw [if_neg c31] at H
                          exact absurd H (by simp)
                      · rw [if_neg c30] at H
                        exact absurd H (by simp)
                    · rw [if_neg c28] at H
                      exact absurd H (by simp)
                  · rw [if_neg c27] at H
                    exact absurd H (by simp)
                · rw [if_neg c24] at H
                  exact absurd H (by simp)
              · rw [if_neg c23] at H
                have c23b0 : decide (x9_2 < (l1.length : Int)) = false := decide_eq_false c23
                clear c23
                replace H := Option.bind_eq_some_iff.mp H
                obtain ⟨⟨t201, t202⟩, A730, H⟩ := H
                replace H : (if t202 = 0 then (bitloftlaw21_DecoderRange.j2 k2 l0 t164 (t201 != (wrap64 ((wrap64 ((l0.length : Int) - (x181002_2.length : Int))) - 4))) x181000_2 x181001_2 x181002_2) else (bitloftlaw21_DecoderRange.j2 k2 l0 t164 true x181000_2 x181001_2 x181002_2)) = some r := H
                have A73 := Aside0.mk A730
                clear A730
                have HC74 := Aside0.mk H
                clear H
                have hnb75 := NB174_180.out
                have hnc75 := NB180_174.out
                have hcz76_0 : wr.cell? ⟨gb174, 0, none⟩ = some (.int .u32 x175000_2) := (blk_cell BK174.out 0).trans rfl
                have hcz76_1 : wr.cell? ⟨gb174, 1, none⟩ = some (.int .u32 x175001_2) := (blk_cell BK174.out 1).trans rfl
                have hcz76_2 : wr.cell? ⟨gb174, 2, none⟩ = some (.int .u32 x175002_2) := (blk_cell BK174.out 2).trans rfl
                have hcz76_3 : wr.cell? ⟨gb174, 3, none⟩ = some (u175003) := (blk_cell BK174.out 3).trans rfl
                have hcz76_4 : wr.cell? ⟨gb174, 4, none⟩ = some (.int .i64 x175004_2) := (blk_cell BK174.out 4).trans rfl
                have hfz76_0 := blk_frozen BK174.out 0
                have hfz76_1 := blk_frozen BK174.out 1
                have hfz76_2 := blk_frozen BK174.out 2
                have hfz76_3 := blk_frozen BK174.out 3
                have hfz76_4 := blk_frozen BK174.out 4
                obtain ⟨Ao77, co77, eo77⟩ := Kd.R_slice HO_175003.out
                subst eo77
                go_upto_region 17 with (first | ((with_reducible refine gate_callee (f := 52) rfl ?_); refine goesL_ (some 111) rfl rfl Try.func52 (by kernel_rfl) rfl #[.agg #[.int .u32 x175000_2, .int .u32 x175001_2, .int .u32 x175002_2, .slice Ao77 x175003_2.length co77, .int .i64 x175004_2]] rfl (by (try simp only [List.map_toArray, List.map_cons, List.map_nil]); first | done | rfl | (simp only [List.length_drop, List.length_take]; rfl)) ?_; (with_reducible refine (decoder_Over.calls x175000_2 x175001_2 x175002_2 _ _ x175003_2 x175004_2 t201 t202 _ ?side1 ?side2 A73.out).mono ?_); (case side1 => repeat (first | exact (Kd.R_reads' HO_175003.out).2.2 | (with_reducible refine Kd.C_alloc ?_ _) | (with_reducible refine Kd.C_drewN ?_ _) | (with_reducible refine Kd.C_drew ?_))); (case side2 => exact (Kd.R_reads' HO_175003.out).2.1); rintro e w78 ⟨rfl, hb⟩; refine ⟨_, rfl, ?_⟩; have n0_ := Aside0.mk (Kd.R_below (by (with_reducible repeat (first | apply Kd.R_alloc | apply Kd.R_drewN | apply Kd.R_drew)); exact HO_175003.out) hb); have n1_ := Aside0.mk (Kd.R_below (by (with_reducible repeat (first | apply Kd.R_alloc | apply Kd.R_drewN | apply Kd.R_drew)); exact HO_181002.out) hb); have n2_ := Aside0.mk (blk_below (g := gb174) (o := .cells #[.int .u32 x175000_2, .int .u32 x175001_2, .int .u32 x175002_2, .slice Ao77 x175003_2.length co77, .int .i64 x175004_2] 72 (0, 0)) (by (with_reducible repeat (first | refine blk_drewN ?_ _ | refine blk_drew ?_ | refine blk_alloc ?_ _)); exact BK174.out) hb); have n3_ := Aside0.mk (blk_below (g := gb180) (o := .cells #[.int .u32 x181000_2, .int .u32 x181001_2, u181002] 42 (0, 0)) (by (with_reducible repeat (first | refine blk_drewN ?_ _ | refine blk_drew ?_ | refine blk_alloc ?_ _)); exact BK180.out) hb); have n4_ := Aside0.mk (below_step (by repeat (first | (with_reducible first | exact HB.out | apply below_alloc | apply pw_below_drewN | apply below_drew1 | refine below_set ?_ GE174.out | refine below_set ?_ GE180.out) | exact HB.out)) hb); clear HO_175003; clear HO_181002; clear BK174; clear BK180; clear HB; have HO_175003 := n0_; have HO_181002 := n1_; have BK174 := n2_; have BK180 := n3_; have HB := n4_; clear n0_ n1_ n2_ n3_ n4_; (try clear hb); (try clear hb2); (try clear hk); (try clear hi)))
                (try simp only [Act.put, List.setIfInBounds_toArray, List.set_cons_zero, List.set_cons_succ])
                go_cut [126] (fun v126 wc => ∃ (kq : Nat) (x126_73 : Bool), v126 = .bool x126_73 ∧ Aside0 (bitloftlaw21_DecoderRange.j2 kq l0 t164 x126_73 x181000_2 x181001_2 x181002_2 = some r) ∧ Aside0 (kq ≤ k2) ∧ Aside0 (Kd.R (Kd.int .u8) 5 wc w.heap.size (fun k_ => some k_ ≠ (u181002 : Value).ownBlock) (.slice Ao77 x175003_2.length co77) x175003_2) ∧ Aside0 (Kd.R (Kd.int .u8) 5 wc w.heap.size (fun k_ => some k_ ≠ ((.slice Ao77 x175003_2.length co77) : Value).ownBlock) u181002 x181002_2) ∧ Aside0 (wc.heap[gb174]? = some (.cells #[.int .u32 x175000_2, .int .u32 x175001_2, .int .u32 x175002_2, (.slice Ao77 x175003_2.length co77), .int .i64 x175004_2] 72 (0, 0))) ∧ Aside0 (wc.heap[gb180]? = some (.cells #[.int .u32 x181000_2, .int .u32 x181001_2, u181002] 42 (0, 0))) ∧ Aside0 (Below w.heap.size w wc))
                case first =>
                  have H := HC74.out
                  clear HC74
                  by_cases c79 : t202 = 0
                  · rw [if_pos c79] at H
                    have c79b0 : (t202 == 0) = true := beq_iff_eq.mpr c79
                    have c79b1 : (t202 != 0) = false := bne_eq_false_iff_eq.mpr c79
                    clear c79
                    (first | rw [c79b0] | (simp only [i64_w, i32_w]; rw [c79b0]) | skip)
                    have H' := Aside0.mk H
                    clear H
                    have hnb80 := NB180_174.out
                    have hnc80 := NB174_180.out
                    have hcz81_0 : w78.cell? ⟨gb180, 0, none⟩ = some (.int .u32 x181000_2) := (blk_cell BK180.out 0).trans rfl
                    have hcz81_1 : w78.cell? ⟨gb180, 1, none⟩ = some (.int .u32 x181001_2) := (blk_cell BK180.out 1).trans rfl
                    have hcz81_2 : w78.cell? ⟨gb180, 2, none⟩ = some (u181002) := (blk_cell BK180.out 2).trans rfl
                    have hfz81_0 := blk_frozen BK180.out 0
                    have hfz81_1 := blk_frozen BK180.out 1
                    have hfz81_2 := blk_frozen BK180.out 2
                    obtain ⟨Ao82, co82, eo82⟩ := Kd.R_slice HO_181002.out
                    subst eo82
                    go_wp2
                    go_meet
                    case rel => exact ⟨_, ((t201 != (wrap64 ((wrap64 ((l0.length : Int) - (x181002_2.length : Int))) - 4)))), (by first | rfl | (simp; done) | (simp [*]; done)), H', ⟨by have := HJ3.out; have := HK2.out; first | omega | exact Nat.le_refl _⟩, ⟨by (with_reducible repeat (first | apply Kd.R_alloc | apply Kd.R_drewN | apply Kd.R_drew)); exact HO_175003.out⟩, ⟨by (with_reducible repeat (first | apply Kd.R_alloc | apply Kd.R_drewN | apply Kd.R_drew)); exact HO_181002.out⟩, ⟨by (with_reducible repeat (first | refine blk_drewN ?_ _ | refine blk_drew ?_ | refine blk_alloc ?_ _)); exact BK174.out⟩, ⟨by (with_reducible repeat (first | refine blk_drewN ?_ _ | refine blk_drew ?_ | refine blk_alloc ?_ _)); exact BK180.out⟩, ⟨by repeat (first | (with_reducible first | exact HB.out | apply below_alloc | apply pw_below_drewN | apply below_drew1 | refine below_set ?_ GE174.out | refine below_set ?_ GE180.out) | exact HB.out)⟩⟩
                  · rw [if_neg c79] at H
                    have c79b0 : (t202 == 0) = false := beq_eq_false_iff_ne.mpr c79
                    have c79b1 : (t202 != 0) = true := bne_iff_ne.mpr c79
                    (first | rw [c79b0] | (simp only [i64_w, i32_w]; rw [c79b0]) | skip)
                    have H' := Aside0.mk H
                    clear H
                    go_wp2
                    go_meet
                    case rel => exact ⟨_, (true), (by first | rfl | (simp; done) | (simp [*]; done)), H', ⟨by have := HJ3.out; have := HK2.out; first | omega | exact Nat.le_refl _⟩, ⟨by (with_reducible repeat (first | apply Kd.R_alloc | apply Kd.R_drewN | apply Kd.R_drew)); exact HO_175003.out⟩, ⟨by (with_reducible repeat (first | apply Kd.R_alloc | apply Kd.R_drewN | apply Kd.R_drew)); exact HO_181002.out⟩, ⟨by (with_reducible repeat (first | refine blk_drewN ?_ _ | refine blk_drew ?_ | refine blk_alloc ?_ _)); exact BK174.out⟩, ⟨by (with_reducible repeat (first | refine blk_drewN ?_ _ | refine blk_drew ?_ | refine blk_alloc ?_ _)); exact BK180.out⟩, ⟨by repeat (first | (with_reducible first | exact HB.out | apply below_alloc | apply pw_below_drewN | apply below_drew1 | refine below_set ?_ GE174.out | refine below_set ?_ GE180.out) | exact HB.out)⟩⟩
                case rest =>
                  clear HC74
                  try clear c2
                  try clear p2
                  try clear c3
                  try clear c5
                  try clear c6
                  try clear p6
                  try clear c7
                  try clear c8
                  try clear c23
                  try clear c23b0
                  try clear c24
                  try clear c27
                  try clear c28
                  try clear c30
                  try clear c31
                  try clear c32
                  try clear c33
                  try clear c52
                  try clear c55
                  try clear c56
                  try clear c57
                  try clear c61
                  try clear c62
                  try clear p64
                  try clear c75
                  try clear c79
                  try clear c79b0
                  try clear c79b1
                  try clear c80
                  try clear hcz58_0
                  try clear hcz58_1
                  try clear hcz58_2
                  try clear hcz58_3
                  try clear hcz58_4
                  try clear hcz60_0
                  try clear hcz60_1
                  try clear hcz60_2
                  try clear hcz60_3
                  try clear hcz60_4
                  try clear hcz63_0
                  try clear hcz63_1
                  try clear hcz63_2
                  try clear hcz76_0
                  try clear hcz76_1
                  try clear hcz76_2
                  try clear hcz76_3
                  try clear hcz76_4
                  try clear hcz81_0
                  try clear hcz81_1
                  try clear hcz81_2
                  try clear hfz58_0
                  try clear hfz58_1
                  try clear hfz58_2
                  try clear hfz58_3
                  try clear hfz58_4
                  try clear hfz60_0
                  try clear hfz60_1
                  try clear hfz60_2
                  try clear hfz60_3
                  try clear hfz60_4
                  try clear hfz63_0
                  try clear hfz63_1
                  try clear hfz63_2
                  try clear hfz76_0
                  try clear hfz76_1
                  try clear hfz76_2
                  try clear hfz76_3
                  try clear hfz76_4
                  try clear hfz81_0
                  try clear hfz81_1
                  try clear hfz81_2
                  obtain ⟨kq, x126_73, rfl, HA, HJ73, HO_175003, HO_181002, BK174, BK180, HB⟩ := hcut
                  cases kq with
                  | zero => exact absurd HA.out (by simp [bitloftlaw21_DecoderRange.j2])
                  | succ kj73 =>
                    have H := HA.out
                    clear HA
                    simp only [bitloftlaw21_DecoderRange.j2] at H
                    by_cases c83 : x126_73 = true
                    · subst c83
                      have H1 : (none) = some r := by rw [if_pos rfl] at H; exact H
                      clear H
                      have H := H1
                      clear H1
                      exact absurd H (by simp)
                    · replace c83 := Bool.eq_false_iff.mpr c83
                      subst c83
                      have H1 : (bitloftlaw21_DecoderRange.l1 kj73 l0 t164 0 x181000_2 x181001_2 x181002_2) = some r := by rw [if_neg (show ¬ (false = true) by decide)] at H; exact H
                      clear H
                      have H := H1
                      clear H1
                      have H' := Aside0.mk H
                      clear H
                      go_wp2
                      go_loopg [17] kj73 (fun kq v17 w' => ∃ (x17_4 : Int), v17 = .int .i64 x17_4 ∧ Aside0 (bitloftlaw21_DecoderRange.l1 kq l0 t164 x17_4 x181000_2 x181001_2 x181002_2 = some r) ∧ Aside0 (kq ≤ kj73) ∧ Aside0 (Kd.R (Kd.int .u8) 5 w' w.heap.size (fun k_ => some k_ ≠ (u181002 : Value).ownBlock) (.slice Ao77 x175003_2.length co77) x175003_2) ∧ Aside0 (Kd.R (Kd.int .u8) 5 w' w.heap.size (fun k_ => some k_ ≠ ((.slice Ao77 x175003_2.length co77) : Value).ownBlock) u181002 x181002_2) ∧ Aside0 (w'.heap[gb174]? = some (.cells #[.int .u32 x175000_2, .int .u32 x175001_2, .int .u32 x175002_2, (.slice Ao77 x175003_2.length co77), .int .i64 x175004_2] 72 (0, 0))) ∧ Aside0 (w'.heap[gb180]? = some (.cells #[.int .u32 x181000_2, .int .u32 x181001_2, u181002] 42 (0, 0))) ∧ Aside0 (Below w.heap.size w w'))
                      case atStart => exact ⟨(0), (by first | rfl | (simp; done) | (simp [*]; done)), H', ⟨Nat.le_refl _⟩, ⟨by (with_reducible repeat (first | apply Kd.R_alloc | apply Kd.R_drewN | apply Kd.R_drew)); exact HO_175003.out⟩, ⟨by (with_reducible repeat (first | apply Kd.R_alloc | apply Kd.R_drewN | apply Kd.R_drew)); exact HO_181002.out⟩, ⟨by (with_reducible repeat (first | refine blk_drewN ?_ _ | refine blk_drew ?_ | refine blk_alloc ?_ _)); exact BK174.out⟩, ⟨by (with_reducible repeat (first | refine blk_drewN ?_ _ | refine blk_drew ?_ | refine blk_alloc ?_ _)); exact BK180.out⟩, ⟨by repeat (first | (with_reducible first | exact HB.out | apply below_alloc | apply pw_below_drewN | apply below_drew1 | refine below_set ?_ GE174.out | refine below_set ?_ GE180.out) | exact HB.out)⟩⟩
                      case round =>
                        clear H'
                        try clear c2
                        try clear p2
                        try clear c3
                        try clear c5
                        try clear c6
                        try clear p6
                        try clear c7
                        try clear c8
                        try clear c23
                        try clear c23b0
                        try clear c24
                        try clear c27
                        try clear c28
                        try clear c30
                        try clear c31
                        try clear c32
                        try clear c33
                        try clear c52
                        try clear c55
                        try clear c56
                        try clear c57
                        try clear c61
                        try clear c62
                        try clear p64
                        try clear c75
                        try clear c79
                        try clear c79b0
                        try clear c79b1
                        try clear c80
                        try clear c83
                        try clear hcz58_0
                        try clear hcz58_1
                        try clear hcz58_2
                        try clear hcz58_3
                        try clear hcz58_4
                        try clear hcz60_0
                        try clear hcz60_1
                        try clear hcz60_2
                        try clear hcz60_3
                        try clear hcz60_4
                        try clear hcz63_0
                        try clear hcz63_1
                        try clear hcz63_2
                        try clear hcz76_0
                        try clear hcz76_1
                        try clear hcz76_2
                        try clear hcz76_3
                        try clear hcz76_4
                        try clear hcz81_0
                        try clear hcz81_1
                        try clear hcz81_2
                        try clear hfz58_0
                        try clear hfz58_1
                        try clear hfz58_2
                        try clear hfz58_3
                        try clear hfz58_4
                        try clear hfz60_0
                        try clear hfz60_1
                        try clear hfz60_2
                        try clear hfz60_3
                        try clear hfz60_4
                        try clear hfz63_0
                        try clear hfz63_1
                        try clear hfz63_2
                        try clear hfz76_0
                        try clear hfz76_1
                        try clear hfz76_2
                        try clear hfz76_3
                        try clear hfz76_4
                        try clear hfz81_0
                        try clear hfz81_1
                        try clear hfz81_2
                        try clear p2
                        try clear p6
                        try clear p64
                        obtain ⟨x17_4, rfl, HA, HK4, HO_175003, HO_181002, BK174, BK180, HB⟩ := hrel
                        cases gk with
                        | zero => exact absurd HA.out (by simp [bitloftlaw21_DecoderRange.l1])
                        | succ k4 =>
                          have H := HA.out
                          clear HA
                          simp only [bitloftlaw21_DecoderRange.l1] at H
                          by_cases c84 : x17_4 < (x181002_2.length : Int)
                          · rw [if_pos c84] at H
                            have c84b0 : decide (x17_4 < (x181002_2.length : Int)) = true := decide_eq_true c84
                            clear c84
                            by_cases c85 : 0 ≤ x17_4
                            · rw [if_pos c85] at H
                              have c85b0 : decide (0 ≤ x17_4) = true := decide_eq_true c85
                              clear c85
                              replace H := Option.bind_eq_some_iff.mp H
                              obtain ⟨t204, A860, H⟩ := H
                              replace H : (if (rd x181002_2 x17_4) = t204 then (bitloftlaw21_DecoderRange.l1 k4 l0 t164 (wrap64 (x17_4 + 1)) x181000_2 x181001_2 x181002_2) else (none)) = some r := H
                              have A86 := Aside0.mk A860
                              clear A860
                              by_cases c87 : (rd x181002_2 x17_4) = t204
                              · rw [if_pos c87] at H
                                have c87b0 : ((rd x181002_2 x17_4) == t204) = true := beq_iff_eq.mpr c87
                                have c87b1 : ((rd x181002_2 x17_4) != t204) = false := bne_eq_false_iff_eq.mpr c87
                                clear c87
                                have H' := Aside0.mk H
                                clear H
                                have hnb88 := NB180_174.out
                                have hnc88 := NB174_180.out
                                have hcz89_0 : wr.cell? ⟨gb180, 0, none⟩ = some (.int .u32 x181000_2) := (blk_cell BK180.out 0).trans rfl
                                have hcz89_1 : wr.cell? ⟨gb180, 1, none⟩ = some (.int .u32 x181001_2) := (blk_cell BK180.out 1).trans rfl
                                have hcz89_2 : wr.cell? ⟨gb180, 2, none⟩ = some (u181002) := (blk_cell BK180.out 2).trans rfl
                                have hfz89_0 := blk_frozen BK180.out 0
                                have hfz89_1 := blk_frozen BK180.out 1
                                have hfz89_2 := blk_frozen BK180.out 2
                                obtain ⟨Ao90, co90, eo90⟩ := Kd.R_slice HO_181002.out
                                subst eo90
                                try go_wp2
                                have n0_ := Aside0.mk (Kd.R_drew HO_175003.out)
                                have n1_ := Aside0.mk (Kd.R_drew HO_181002.out)
                                have n2_ := Aside0.mk (blk_drew BK174.out)
                                have n3_ := Aside0.mk (blk_drew BK180.out)
                                have n4_ := Aside0.mk (below_drew1 HB.out)
                                clear HO_175003
                                clear HO_181002
                                clear BK174
                                clear BK180
                                clear HB
                                have HO_175003 := n0_
                                have HO_181002 := n1_
                                have BK174 := n2_
                                have BK180 := n3_
                                have HB := n4_
                                clear n0_ n1_ n2_ n3_ n4_
                                have p203 : 0 ≤ (x17_4 : Int) := of_decide_eq_true (by first | (with_reducible assumption) | assumption)
                                have q203 : x17_4 < (x181002_2.length : Int) := of_decide_eq_true (by first | (with_reducible assumption) | assumption)
                                obtain ⟨ad203, e203, hx203_0⟩ := Kd.at_int (Kd.R_reads' HO_181002.out).2.2 x17_4 p203 q203
                                cases e203
                                replace p203 := eq_true p203
                                replace q203 := eq_true q203
                                refine start_ (n := 9) (S := fun w' => w'.cell? ⟨gb180, 0, none⟩ = some (.int .u32 x181000_2) ∧ w'.cell? ⟨gb180, 1, none⟩ = some (.int .u32 x181001_2) ∧ w'.cell? ⟨gb180, 2, none⟩ = some (.slice (some ad203) x181002_2.length co90) ∧ w'.cell? (ad203.add (x17_4).toNat) = some (.int .u8 (rd x181002_2 x17_4))) (ds := []) #[false, false, false, false, false, false, false, false, false] (by kernel_rfl) rfl rfl ⟨(blk_cell BK180.out 0).trans rfl, (blk_cell BK180.out 1).trans rfl, (blk_cell BK180.out 2).trans rfl, hx203_0⟩ (fun hHeld => ?_); refine with_tabW bitloftlaw21_DecoderRange.tab22 bitloftlaw21_DecoderRange.bits22 (fun HT_ HW_ => ?_)
                                generalize wr.drew = w91 at HO_175003 HO_181002 BK174 BK180 HB hx203_0 hHeld ⊢
                                refine pure_ (i := 0) (N := some 134) (v := ?_) (a' := ?_) #[true, false, false, false, false, false, false, false, false] rfl rfl (any_of HT_.out (by kernel_rfl)) (fun _ _ _ h => h) (Or.inl ⟨by rfl, ?_⟩) ?_ ?_
                                rotate_left
                                · intro w'
                                  go_simp
                                  with_reducible rfl
                                rotate_left
                                · simp only [Act.put, List.setIfInBounds_toArray, List.set_cons_zero, List.set_cons_succ, i64_w, i32_w]
                                  rfl
                                refine pure_ (i := 2) (N := some 136) (v := ?_) (a' := ?_) #[true, false, true, false, false, false, false, false, false] rfl rfl (any_of HT_.out (by kernel_rfl)) (fun _ _ _ h => h) (Or.inl ⟨by rfl, ?_⟩) ?_ ?_
                                rotate_left
                                · intro w'
                                  go_simp
                                  with_reducible rfl
                                rotate_left
                                · simp only [Act.put, List.setIfInBounds_toArray, List.set_cons_zero, List.set_cons_succ, i64_w, i32_w]
                                  rfl
                                refine pure_ (i := 5) (N := some 139) (v := ?_) (a' := ?_) #[true, false, true, false, false, true, false, false, false] rfl rfl (any_of HT_.out (by kernel_rfl)) (fun _ _ _ h => h) (Or.inl ⟨by rfl, ?_⟩) ?_ ?_
                                rotate_left
                                · intro w'
                                  go_simp
                                  with_reducible rfl
                                rotate_left
                                · simp only [Act.put, List.setIfInBounds_toArray, List.set_cons_zero, List.set_cons_succ, i64_w, i32_w]
                                  rfl
                                refine pure_ (i := 6) (N := some 140) (v := ?_) (a' := ?_) #[true, false, true, false, false, true, true, false, false] rfl rfl (any_of HT_.out (by kernel_rfl)) (fun _ _ _ h => h) (Or.inl ⟨by rfl, ?_⟩) ?_ ?_
                                rotate_left
                                · intro w'
                                  go_simp
                                  with_reducible rfl
                                rotate_left
                                · simp only [Act.put, List.setIfInBounds_toArray, List.set_cons_zero, List.set_cons_succ, i64_w, i32_w]
                                  rfl
                                refine take_ (i := 1) (N := some 135) (v := ?_) (a' := ?_) #[true, true, true, false, false, true, true, false, false] rfl rfl (take_ofW HT_.out HW_.out (by kernel_rfl)) (fun _ _ _ h => h) (Or.inl ⟨by rfl, ?_⟩) hHeld ?_ ?_
                                rotate_left
                                · rintro w' ⟨s0, s1, s2, s3⟩
                                  go_simp
                                  with_reducible rfl
                                rotate_left
                                · simp only [Act.put, List.setIfInBounds_toArray, List.set_cons_zero, List.set_cons_succ, i64_w, i32_w]
                                  rfl
                                refine pure_ (i := 3) (N := some 137) (v := ?_) (a' := ?_) #[true, true, true, true, false, true, true, false, false] rfl rfl (any_of HT_.out (by kernel_rfl)) (fun _ _ _ h => h) (Or.inl ⟨by rfl, ?_⟩) ?_ ?_
                                rotate_left
                                · intro w'
                                  go_simp
                                  with_reducible rfl
                                rotate_left
                                · simp only [Act.put, List.setIfInBounds_toArray, List.set_cons_zero, List.set_cons_succ, i64_w, i32_w]
                                  rfl
                                refine take_ (i := 4) (N := some 138) (v := ?_) (a' := ?_) #[true, true, true, true, true, true, true, false, false] rfl rfl (take_ofW HT_.out HW_.out (by kernel_rfl)) (fun _ _ _ h => h) (Or.inl ⟨by rfl, ?_⟩) hHeld ?_ ?_
                                rotate_left
                                · rintro w' ⟨s0, s1, s2, s3⟩
                                  go_simp
                                  with_reducible rfl
                                rotate_left
                                · simp only [Act.put, List.setIfInBounds_toArray, List.set_cons_zero, List.set_cons_succ, i64_w, i32_w]
                                  rfl
                                refine one_ (i := 7) (N := some 141) #[true, true, true, true, true, true, true, true, false] rfl rfl (one_of HT_.out (by kernel_rfl)) (by decide) (fun K hK => ?_)
                                refine goes_ Try.func60 (by kernel_rfl) rfl #[.slice A0 l0.length c0, .int .i64 x17_4] (by rfl) rfl rfl (by (try simp only [List.map_toArray, List.map_cons, List.map_nil]); first | done | rfl | (simp only [List.length_drop, List.length_take]; rfl)) ?_
                                with_reducible refine (bitloftref21_Byte.calls _ _ l0 x17_4 t204 _ ?side1 ?side2 A86.out).mono ?_
                                (case side1 => repeat (first | exact (Kd.C_below HR0.out HB.out) | (with_reducible refine Kd.C_alloc ?_ _) | (with_reducible refine Kd.C_drewN ?_ _) | (with_reducible refine Kd.C_drew ?_)))
                                (case side2 => exact HC0.out)
                                rintro e w' ⟨rfl, ⟨nd, rfl⟩⟩
                                refine ⟨_, rfl, ?_⟩
                                refine hK.out _ _ ⟨(blk_cell BK180.out 0).trans rfl, (blk_cell BK180.out 1).trans rfl, (blk_cell BK180.out 2).trans rfl, hHeld.2.2.2⟩ (fun hHeld => ?_)
                                clear hK K
                                refine norm_ (a' := ?_) ?_ ?_
                                rotate_left
                                · show Act.put _ (some 141) _ = _
                                  simp only [Act.put, List.setIfInBounds_toArray, List.set_cons_zero, List.set_cons_succ, i64_w, i32_w]
                                  rfl
                                refine pure_ (i := 8) (N := some 142) (v := ?_) (a' := ?_) #[true, true, true, true, true, true, true, true, true] rfl rfl (any_of HT_.out (by kernel_rfl)) (fun _ _ _ h => h) (Or.inl ⟨by rfl, ?_⟩) ?_ ?_
                                rotate_left
                                · intro w'
                                  go_simp
                                  with_reducible rfl
                                rotate_left
                                · simp only [Act.put, List.setIfInBounds_toArray, List.set_cons_zero, List.set_cons_succ, i64_w, i32_w]
                                  rfl
                                refine done_ (done_of HT_.out (by kernel_rfl)) ?_
                                try go_wp2
                                go_roundg k4
                                case measure => have := HJ3.out; have := HK2.out; have := HJ73.out; have := HK4.out; omega
                                case rel => exact ⟨(wrap64 (x17_4 + 1)), (by first | rfl | (simp; done) | (simp [*]; done)), H', ⟨by have := HJ3.out; have := HK2.out; have := HJ73.out; have := HK4.out; omega⟩, ⟨by (with_reducible repeat (first | apply Kd.R_alloc | apply Kd.R_drewN | apply Kd.R_drew)); exact HO_175003.out⟩, ⟨by (with_reducible repeat (first | apply Kd.R_alloc | apply Kd.R_drewN | apply Kd.R_drew)); exact HO_181002.out⟩, ⟨by (with_reducible repeat (first | refine blk_drewN ?_ _ | refine blk_drew ?_ | refine blk_alloc ?_ _)); exact BK174.out⟩, ⟨by (with_reducible repeat (first | refine blk_drewN ?_ _ | refine blk_drew ?_ | refine blk_alloc ?_ _)); exact BK180.out⟩, ⟨by repeat (first | (with_reducible first | exact HB.out | apply below_alloc | apply pw_below_drewN | apply below_drew1 | refine below_set ?_ GE174.out | refine below_set ?_ GE180.out) | exact HB.out)⟩⟩
                              · rw [if_neg c87] at H
                                exact absurd H (by simp)
                            · rw [if_neg c85] at H
                              exact absurd H (by simp)
                          · rw [if_neg c84] at H
                            have c84b0 : decide (x17_4 < (x181002_2.length : Int)) = false := decide_eq_false c84
                            clear c84
                            obtain rfl := Option.some.inj H
                            have hnb92 := NB180_174.out
                            have hnc92 := NB174_180.out
                            have hcz93_0 : wr.cell? ⟨gb180, 0, none⟩ = some (.int .u32 x181000_2) := (blk_cell BK180.out 0).trans rfl
                            have hcz93_1 : wr.cell? ⟨gb180, 1, none⟩ = some (.int .u32 x181001_2) := (blk_cell BK180.out 1).trans rfl
                            have hcz93_2 : wr.cell? ⟨gb180, 2, none⟩ = some (u181002) := (blk_cell BK180.out 2).trans rfl
                            have hfz93_0 := blk_frozen BK180.out 0
                            have hfz93_1 := blk_frozen BK180.out 1
                            have hfz93_2 := blk_frozen BK180.out 2
                            obtain ⟨Ao94, co94, eo94⟩ := Kd.R_slice HO_181002.out
                            subst eo94
                            go_wp2
                            go_ret
                            exact ⟨by first | rfl | (simp [errW_none, errW_some] <;> rfl) | (simp [*, errW_none, errW_some] <;> rfl), by repeat (first | (with_reducible first | exact HB.out | apply below_alloc | apply pw_below_drewN | apply below_drew1 | refine below_set ?_ GE174.out | refine below_set ?_ GE180.out) | exact HB.out)⟩
        · rw [if_neg c13] at H
          exact absurd H (by simp)

/-- THE ONE PURE STATEMENT of bitloftlaw21_DecoderRange: yours. -/
def bitloftlaw21_DecoderRange.Pure : Prop := ∀ (l0 : List Int) (l1 : List Int), l0.length ≤ maxLen → l0.length * 1 ≤ 140737488351232 → (∀ x ∈ l0, (Lit.int .u8 x).wf = true) → l1.length ≤ maxLen → l1.length * 8 ≤ 140737488351232 → (∀ x ∈ l1, (Lit.int .i64 x).wf = true) → ∃ k, bitloftlaw21_DecoderRange.f k l0 l1 = some true
theorem bitloftlaw21_DecoderRange.walk (P : bitloftlaw21_DecoderRange.Pure) (a0 : Option Addr) (len0 cap0 : Nat) (z0 : List Int) (a1 : Option Addr) (len1 cap1 : Nat) (z1 : List Int) (w : World) (w0 : (a0 = none ∧ len0 = 0 ∧ cap0 = 0 ∧ z0 = []) ∨ ∃ x, a0 = some x ∧ len0 ≤ cap0 ∧ cap0 ≤ maxLen ∧ z0.length = cap0 ∧ (∀ i, i < z0.length → w.cell? (x.add i) = some (.int .u8 (z0.getD i 0))) ∧ ∀ n ∈ z0, (Lit.int .u8 n).wf = true) (y0 : len0 * 1 ≤ 140737488351232) (w1 : (a1 = none ∧ len1 = 0 ∧ cap1 = 0 ∧ z1 = []) ∨ ∃ x, a1 = some x ∧ len1 ≤ cap1 ∧ cap1 ≤ maxLen ∧ z1.length = cap1 ∧ (∀ i, i < z1.length → w.cell? (x.add i) = some (.int .i64 (z1.getD i 0))) ∧ ∀ n ∈ z1, (Lit.int .i64 n).wf = true) (y1 : len1 * 8 ≤ 140737488351232) :
    Calls Try.prog 17 #[.slice a0 len0 cap0, .slice a1 len1 cap1] w fun e w' => e = .returned (.bool true) ∧ Below w.heap.size w w' := by
  obtain ⟨l0, rfl, hr0, hm0, hw0, hc0⟩ := ReadsInt.ofRowC w0
  obtain ⟨l1, rfl, hr1, hm1, hw1, hc1⟩ := ReadsInt.ofRowC w1
  obtain ⟨k, h⟩ := P l0 l1 hm0 y0 hw0 hm1 y1 hw1
  refine (bitloftlaw21_DecoderRange.calls k _ _ l0 _ _ l1 true w (Kd.C_of_reads (d := (0 : Int)) (h1 := fun _ => rfl) hr0) hc0 (Kd.C_of_reads (d := (0 : Int)) (h1 := fun _ => rfl) hr1) hc1 h).mono ?_
  rintro e w' ⟨rfl, hd⟩
  exact ⟨rfl, hd⟩

end Go.Proofs.Ytgapkifgddjijaa.QD
