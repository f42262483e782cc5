-- Written by qprint.py (a program of this session) out of the translation's print. Not trusted: Lean checks it.
import Derived.Test.YtgapkifgddjijaaQDx0
import Derived.Test.YtgapkifgddjijaaQDx1
import Derived.Test.YtgapkifgddjijaaQDx2
namespace Go.Proofs.Ytgapkifgddjijaa.QD
open Go.RowKit Go.Proofs.YtgapkifgddjijaaW.PrintWords Go.Proofs.YtgapkifgddjijaaW.PrintLast Go.Proofs.YtgapkifgddjijaaW.PrintMore
attribute [local go_sem] max2_int min2_int max_two min_two max_three min_three max_four min_four   -- for this text's walks alone
set_option linter.unusedVariables false
set_option linter.unusedSimpArgs false

/-! ### bitloftlaw21_DecoderParts: function 15 -/
mutual
def bitloftlaw21_DecoderParts.j0 : Nat → List Int → List Int → Int → Bool → Bool → Option (Bool)
  | 0, _, _, _, _, _ => none
  | k + 1, x0, x1, x2, x7, x47 => if x47 = true then (some x7) else ((decoder_Run.f k x0 x1).bind fun bt207 => (if 0 ≤ x2 then (if x2 ≤ (x1.length : Int) then ((decoder_Run.f k x0 (x1.take (x2 : Int).toNat)).bind fun bt212 => ((decoder_New.f k x0).bind fun bt216 => (if bt207.2 = 0 then (if bt212.2 = 0 then (if bt216.2.2.2.2.2 = 0 then (if (bt207.1.length : Int) = (x1.length : Int) then (if (bt212.1.length : Int) = x2 then (if x2 ≤ (bt207.1.length : Int) then ((bitloftref14_Same.f k (bt207.1.take (x2 : Int).toNat) bt212.1).bind fun t229 => (bitloftlaw21_DecoderParts.j1 k x1 x7 bt207.1 (!t229) bt216.1 bt216.2.1 bt216.2.2.1 bt216.2.2.2.1 bt216.2.2.2.2.1)) else (none)) else (bitloftlaw21_DecoderParts.j1 k x1 x7 bt207.1 true bt216.1 bt216.2.1 bt216.2.2.1 bt216.2.2.2.1 bt216.2.2.2.2.1)) else (bitloftlaw21_DecoderParts.j1 k x1 x7 bt207.1 true bt216.1 bt216.2.1 bt216.2.2.1 bt216.2.2.2.1 bt216.2.2.2.2.1)) else (bitloftlaw21_DecoderParts.j1 k x1 x7 bt207.1 true bt216.1 bt216.2.1 bt216.2.2.1 bt216.2.2.2.1 bt216.2.2.2.2.1)) else (bitloftlaw21_DecoderParts.j1 k x1 x7 bt207.1 true bt216.1 bt216.2.1 bt216.2.2.1 bt216.2.2.2.1 bt216.2.2.2.2.1)) else (bitloftlaw21_DecoderParts.j1 k x1 x7 bt207.1 true bt216.1 bt216.2.1 bt216.2.2.1 bt216.2.2.2.1 bt216.2.2.2.2.1)))) else (none)) else (none)))
def bitloftlaw21_DecoderParts.j1 : Nat → List Int → Bool → List Bool → Bool → Int → Int → Int → List Int → Int → Option (Bool)
  | 0, _, _, _, _, _, _, _, _, _ => none
  | k + 1, x1, x7, x8, x98, x225000, x225001, x225002, x225003, x225004 => if x98 = true then (none) else (bitloftlaw21_DecoderParts.l0 k x1 x7 x8 0 x225000 x225001 x225002 x225003 x225004)
def bitloftlaw21_DecoderParts.l0 : Nat → List Int → Bool → List Bool → Int → Int → Int → Int → List Int → Int → Option (Bool)
  | 0, _, _, _, _, _, _, _, _, _ => none
  | k + 1, x1, x7, x8, x14, x225000, x225001, x225002, x225003, x225004 => if x14 < (x1.length : Int) then (if 0 ≤ x14 then ((decoder_Get.f k x225000 x225001 x225002 x225003 x225004 (rd x1 x14)).bind fun bt231 => (if bt231.2.2.2.2.2.2 = 0 then (if x14 < (x8.length : Int) then (if (bt231.2.2.2.2.2.1 != (rdOf false x8 x14)) = true then (none) else (bitloftlaw21_DecoderParts.l0 k x1 x7 x8 (wrap64 (x14 + 1)) bt231.1 bt231.2.1 bt231.2.2.1 bt231.2.2.2.1 bt231.2.2.2.2.1)) else (none)) else (none))) else (none)) else (some x7)
end
def bitloftlaw21_DecoderParts.f (k : Nat) (l0 : List Int) (l1 : List Int) (a2 : Int) : Option (Bool) := (bitloftlaw21_alive.f k).bind fun t205 => (if (l0.length : Int) > 60 then (bitloftlaw21_DecoderParts.j0 k l0 l1 a2 t205 true) else (if (l1.length : Int) > 60 then (bitloftlaw21_DecoderParts.j0 k l0 l1 a2 t205 true) else ((bitloftref20_Probs.f k l1 (l1.length : Int)).bind fun t206 => (if t206 = 0 then (if a2 < 0 then (bitloftlaw21_DecoderParts.j0 k l0 l1 a2 t205 true) else (if a2 > (l1.length : Int) then (bitloftlaw21_DecoderParts.j0 k l0 l1 a2 t205 true) else (bitloftlaw21_DecoderParts.j0 k l0 l1 a2 t205 (!t205)))) else (bitloftlaw21_DecoderParts.j0 k l0 l1 a2 t205 true)))))
theorem bitloftlaw21_DecoderParts.mono_l : ∀ k, (∀ y0 y1 y2 y3 y4, LeO (bitloftlaw21_DecoderParts.j0 k y0 y1 y2 y3 y4) (bitloftlaw21_DecoderParts.j0 (k + 1) y0 y1 y2 y3 y4)) ∧ (∀ y0 y1 y2 y3 y4 y5 y6 y7 y8, LeO (bitloftlaw21_DecoderParts.j1 k y0 y1 y2 y3 y4 y5 y6 y7 y8) (bitloftlaw21_DecoderParts.j1 (k + 1) y0 y1 y2 y3 y4 y5 y6 y7 y8)) ∧ (∀ y0 y1 y2 y3 y4 y5 y6 y7 y8, LeO (bitloftlaw21_DecoderParts.l0 k y0 y1 y2 y3 y4 y5 y6 y7 y8) (bitloftlaw21_DecoderParts.l0 (k + 1) y0 y1 y2 y3 y4 y5 y6 y7 y8))
  | 0 => ⟨fun _ _ _ _ _ r h => by simp [bitloftlaw21_DecoderParts.j0] at h, fun _ _ _ _ _ _ _ _ _ r h => by simp [bitloftlaw21_DecoderParts.j1] at h, fun _ _ _ _ _ _ _ _ _ r h => by simp [bitloftlaw21_DecoderParts.l0] at h⟩
  | k + 1 => by
    obtain ⟨ih0, ih1, ih2⟩ := bitloftlaw21_DecoderParts.mono_l k
    refine ⟨?_, ?_, ?_⟩
    · intro y0 y1 y2 y3 y4
      unfold bitloftlaw21_DecoderParts.j0
      repeat' first
      | (with_reducible exact ih0 _ _ _ _ _)
      | (with_reducible exact ih1 _ _ _ _ _ _ _ _ _)
      | (with_reducible exact ih2 _ _ _ _ _ _ _ _ _)
      | (with_reducible exact bitloftlaw21_alive.mono _)
      | (with_reducible exact bitloftref14_Same.mono _ _ _)
      | (with_reducible exact bitloftref20_Probs.mono _ _ _)
      | (with_reducible exact decoder_Get.mono _ _ _ _ _ _ _)
      | (with_reducible exact decoder_New.mono _ _)
      | (with_reducible exact decoder_Run.mono _ _ _)
      | (with_reducible exact LeO.refl _)
      | (with_reducible exact LeO.none _)
      | (with_reducible refine LeO.ite ?_ ?_)
      | (with_reducible refine LeO.bind ?_ (fun _ => ?_))
      | exact ih0 _ _ _ _ _
      | exact ih1 _ _ _ _ _ _ _ _ _
      | exact ih2 _ _ _ _ _ _ _ _ _
      | exact bitloftlaw21_alive.mono _
      | exact bitloftref14_Same.mono _ _ _
      | exact bitloftref20_Probs.mono _ _ _
      | exact decoder_Get.mono _ _ _ _ _ _ _
      | exact decoder_New.mono _ _
      | exact decoder_Run.mono _ _ _
      | exact LeO.none _
      | refine LeO.ite ?_ ?_
      | refine LeO.bind ?_ (fun _ => ?_)
    · intro y0 y1 y2 y3 y4 y5 y6 y7 y8
      unfold bitloftlaw21_DecoderParts.j1
      repeat' first
      | (with_reducible exact ih0 _ _ _ _ _)
      | (with_reducible exact ih1 _ _ _ _ _ _ _ _ _)
      | (with_reducible exact ih2 _ _ _ _ _ _ _ _ _)
      | (with_reducible exact bitloftlaw21_alive.mono _)
      | (with_reducible exact bitloftref14_Same.mono _ _ _)
      | (with_reducible exact bitloftref20_Probs.mono _ _ _)
      | (with_reducible exact decoder_Get.mono _ _ _ _ _ _ _)
      | (with_reducible exact decoder_New.mono _ _)
      | (with_reducible exact decoder_Run.mono _ _ _)
      | (with_reducible exact LeO.refl _)
      | (with_reducible exact LeO.none _)
      | (with_reducible refine LeO.ite ?_ ?_)
      | (with_reducible refine LeO.bind ?_ (fun _ => ?_))
      | exact ih0 _ _ _ _ _
      | exact ih1 _ _ _ _ _ _ _ _ _
      | exact ih2 _ _ _ _ _ _ _ _ _
      | exact bitloftlaw21_alive.mono _
      | exact bitloftref14_Same.mono _ _ _
      | exact bitloftref20_Probs.mono _ _ _
      | exact decoder_Get.mono _ _ _ _ _ _ _
      | exact decoder_New.mono _ _
      | exact decoder_Run.mono _ _ _
      | exact LeO.none _
      | refine LeO.ite ?_ ?_
      | refine LeO.bind ?_ (fun _ => ?_)
    · intro y0 y1 y2 y3 y4 y5 y6 y7 y8
      unfold bitloftlaw21_DecoderParts.l0
      repeat' first
      | (with_reducible exact ih0 _ _ _ _ _)
      | (with_reducible exact ih1 _ _ _ _ _ _ _ _ _)
      | (with_reducible exact ih2 _ _ _ _ _ _ _ _ _)
      | (with_reducible exact bitloftlaw21_alive.mono _)
      | (with_reducible exact bitloftref14_Same.mono _ _ _)
      | (with_reducible exact bitloftref20_Probs.mono _ _ _)
      | (with_reducible exact decoder_Get.mono _ _ _ _ _ _ _)
      | (with_reducible exact decoder_New.mono _ _)
      | (with_reducible exact decoder_Run.mono _ _ _)
      | (with_reducible exact LeO.refl _)
      | (with_reducible exact LeO.none _)
      | (with_reducible refine LeO.ite ?_ ?_)
      | (with_reducible refine LeO.bind ?_ (fun _ => ?_))
      | exact ih0 _ _ _ _ _
      | exact ih1 _ _ _ _ _ _ _ _ _
      | exact ih2 _ _ _ _ _ _ _ _ _
      | exact bitloftlaw21_alive.mono _
      | exact bitloftref14_Same.mono _ _ _
      | exact bitloftref20_Probs.mono _ _ _
      | exact decoder_Get.mono _ _ _ _ _ _ _
      | exact decoder_New.mono _ _
      | exact decoder_Run.mono _ _ _
      | exact LeO.none _
      | refine LeO.ite ?_ ?_
      | refine LeO.bind ?_ (fun _ => ?_)
theorem bitloftlaw21_DecoderParts.mono : ∀ a0 a1 a2 k, LeO (bitloftlaw21_DecoderParts.f k a0 a1 a2) (bitloftlaw21_DecoderParts.f (k + 1) a0 a1 a2) := by
  intro a0 a1 a2 k
  obtain ⟨ih0, ih1, ih2⟩ := bitloftlaw21_DecoderParts.mono_l k
  unfold bitloftlaw21_DecoderParts.f
  repeat' first
      | (with_reducible exact ih0 _ _ _ _ _)
      | (with_reducible exact ih1 _ _ _ _ _ _ _ _ _)
      | (with_reducible exact ih2 _ _ _ _ _ _ _ _ _)
      | (with_reducible exact bitloftlaw21_alive.mono _)
      | (with_reducible exact bitloftref14_Same.mono _ _ _)
      | (with_reducible exact bitloftref20_Probs.mono _ _ _)
      | (with_reducible exact decoder_Get.mono _ _ _ _ _ _ _)
      | (with_reducible exact decoder_New.mono _ _)
      | (with_reducible exact decoder_Run.mono _ _ _)
      | (with_reducible exact LeO.refl _)
      | (with_reducible exact LeO.none _)
      | (with_reducible refine LeO.ite ?_ ?_)
      | (with_reducible refine LeO.bind ?_ (fun _ => ?_))
      | exact ih0 _ _ _ _ _
      | exact ih1 _ _ _ _ _ _ _ _ _
      | exact ih2 _ _ _ _ _ _ _ _ _
      | exact bitloftlaw21_alive.mono _
      | exact bitloftref14_Same.mono _ _ _
      | exact bitloftref20_Probs.mono _ _ _
      | exact decoder_Get.mono _ _ _ _ _ _ _
      | exact decoder_New.mono _ _
      | exact decoder_Run.mono _ _ _
      | exact LeO.none _
      | refine LeO.ite ?_ ?_
      | refine LeO.bind ?_ (fun _ => ?_)
def bitloftlaw21_DecoderParts.T12 : Bool × List (List Nat × List Nat) := (true, [([], []), ([], []), ([], []), ([1, 2], [1, 2]), ([3], [3]), ([0, 4], [0, 4]), ([5], [5]), ([6], [6]), ([6], [6]), ([6], [6]), ([], []), ([10, 7, 5, 0, 1, 2, 3, 4, 5, 6, 7, 10], [7, 10]), ([8, 11, 0, 1, 2, 3, 4, 5, 6, 7, 8, 10, 11], [8]), ([9, 12, 0, 1, 2, 3, 4, 5, 6, 7, 8, 9, 10, 11, 12], [9])])
def bitloftlaw21_DecoderParts.B12 : List Nat := [0, 0, 0, 6, 14, 31, 63, 127, 127, 127, 0, 1279, 3583, 8191]
theorem bitloftlaw21_DecoderParts.tab12 : rtab .any (opsOf Try.f15 12) = bitloftlaw21_DecoderParts.T12 := by kernel_rfl
theorem bitloftlaw21_DecoderParts.bits12 : waitsOk bitloftlaw21_DecoderParts.T12.2 bitloftlaw21_DecoderParts.B12 = true := by kernel_rfl
set_option maxHeartbeats 8000000 in
set_option maxRecDepth 100000 in
theorem bitloftlaw21_DecoderParts.calls (k : Nat) (A0 : Option Addr) (c0 : Nat) (l0 : List Int) (A1 : Option Addr) (c1 : Nat) (l1 : List Int) (a2 : Int) (r : Bool) (w : World) (hr0 : Kd.C (Kd.int .u8) w A0 l0.length l0) (hc0 : l0.length ≤ c0) (hr1 : Kd.C (Kd.int .i64) w A1 l1.length l1) (hc1 : l1.length ≤ c1) (h : bitloftlaw21_DecoderParts.f k l0 l1 a2 = some r) :
    Calls Try.prog 15 #[.slice A0 l0.length c0, .slice A1 l1.length c1, .int .i64 a2] w fun e w' => e = .returned (.bool r) ∧ Below w.heap.size w w' := by
  have hu72 := Try.underlying72
  have HR0 := Aside0.mk hr0
  have HC0 := Aside0.mk hc0
  clear hr0 hc0
  have HR1 := Aside0.mk hr1
  have HC1 := Aside0.mk hc1
  clear hr1 hc1
  have HB := Aside0.mk (Below.refl w.heap.size w)
  have H : ((bitloftlaw21_alive.f k).bind fun t205 => (if (l0.length : Int) > 60 then (bitloftlaw21_DecoderParts.j0 k l0 l1 a2 t205 true) else (if (l1.length : Int) > 60 then (bitloftlaw21_DecoderParts.j0 k l0 l1 a2 t205 true) else ((bitloftref20_Probs.f k l1 (l1.length : Int)).bind fun t206 => (if t206 = 0 then (if a2 < 0 then (bitloftlaw21_DecoderParts.j0 k l0 l1 a2 t205 true) else (if a2 > (l1.length : Int) then (bitloftlaw21_DecoderParts.j0 k l0 l1 a2 t205 true) else (bitloftlaw21_DecoderParts.j0 k l0 l1 a2 t205 (!t205)))) else (bitloftlaw21_DecoderParts.j0 k l0 l1 a2 t205 true)))))) = some r := h
  clear h
  replace H := Option.bind_eq_some_iff.mp H
  obtain ⟨t205, A40, H⟩ := H
  replace H : (if (l0.length : Int) > 60 then (bitloftlaw21_DecoderParts.j0 k l0 l1 a2 t205 true) else (if (l1.length : Int) > 60 then (bitloftlaw21_DecoderParts.j0 k l0 l1 a2 t205 true) else ((bitloftref20_Probs.f k l1 (l1.length : Int)).bind fun t206 => (if t206 = 0 then (if a2 < 0 then (bitloftlaw21_DecoderParts.j0 k l0 l1 a2 t205 true) else (if a2 > (l1.length : Int) then (bitloftlaw21_DecoderParts.j0 k l0 l1 a2 t205 true) else (bitloftlaw21_DecoderParts.j0 k l0 l1 a2 t205 (!t205)))) else (bitloftlaw21_DecoderParts.j0 k l0 l1 a2 t205 true))))) = some r := H
  have A4 := Aside0.mk A40
  clear A40
  have HC5 := Aside0.mk H
  clear H
  go_enter Try.func15, Try.ntmps15
  go_upto_region 2 with (first | ((with_reducible refine gate_callee (f := 59) rfl ?_); refine goesL_ (some 18) rfl rfl Try.func59 (by kernel_rfl) rfl #[] rfl (by (try simp only [List.map_toArray, List.map_cons, List.map_nil]); first | done | rfl | (simp only [List.length_drop, List.length_take]; rfl)) ?_; (with_reducible refine (bitloftlaw21_alive.calls k  t205 _ A4.out).mono ?_); rintro e w6 ⟨rfl, hb⟩; refine ⟨_, rfl, ?_⟩; have n0_ := Aside0.mk (below_step (by repeat (first | (with_reducible first | exact HB.out | apply below_alloc | apply pw_below_drewN | apply below_drew1) | exact HB.out)) hb); clear HB; have HB := n0_; clear n0_; (try clear hb); (try clear hb2); (try clear hk); (try clear hi)))
  (try simp only [Act.put, List.setIfInBounds_toArray, List.set_cons_zero, List.set_cons_succ])
  go_cut [47] (fun v47 wc => ∃ (kq : Nat) (x47_4 : Bool), v47 = .bool x47_4 ∧ Aside0 (bitloftlaw21_DecoderParts.j0 kq l0 l1 a2 t205 x47_4 = some r) ∧ Aside0 (kq ≤ k) ∧ Aside0 (Below w.heap.size w wc))
  case first =>
    have H := HC5.out
    clear HC5
    by_cases c7 : (l0.length : Int) > 60
    · rw [if_pos c7] at H
      have c7b0 : decide (60 < (l0.length : Int)) = true := decide_eq_true c7
      have c7b1 : decide (60 < l0.length) = true := decide_eq_true (by omega)
      clear c7
      (first | rw [c7b0] | (simp only [i64_w, i32_w]; rw [c7b0]) | skip)
      have H' := Aside0.mk H
      clear H
      go_wp2
      go_meet
      case rel => exact ⟨_, (true), (by first | rfl | (simp; done) | (simp [*]; done)), H', ⟨by first | omega | exact Nat.le_refl _⟩, ⟨by repeat (first | (with_reducible first | exact HB.out | apply below_alloc | apply pw_below_drewN | apply below_drew1) | exact HB.out)⟩⟩
    · rw [if_neg c7] at H
      have c7b0 : decide (60 < (l0.length : Int)) = false := decide_eq_false c7
      have c7b1 : decide (60 < l0.length) = false := decide_eq_false (by omega)
      clear c7
      (first | rw [c7b0] | (simp only [i64_w, i32_w]; rw [c7b0]) | skip)
      by_cases c8 : (l1.length : Int) > 60
      · rw [if_pos c8] at H
        have c8b0 : decide (60 < (l1.length : Int)) = true := decide_eq_true c8
        have c8b1 : decide (60 < l1.length) = true := decide_eq_true (by omega)
        clear c8
        have H' := Aside0.mk H
        clear H
        go_wp2
        go_meet
        case rel => exact ⟨_, (true), (by first | rfl | (simp; done) | (simp [*]; done)), H', ⟨by first | omega | exact Nat.le_refl _⟩, ⟨by repeat (first | (with_reducible first | exact HB.out | apply below_alloc | apply pw_below_drewN | apply below_drew1) | exact HB.out)⟩⟩
      · rw [if_neg c8] at H
        have c8b0 : decide (60 < (l1.length : Int)) = false := decide_eq_false c8
        have c8b1 : decide (60 < l1.length) = false := decide_eq_false (by omega)
        clear c8
        replace H := Option.bind_eq_some_iff.mp H
        obtain ⟨t206, A90, H⟩ := H
        replace H : (if t206 = 0 then (if a2 < 0 then (bitloftlaw21_DecoderParts.j0 k l0 l1 a2 t205 true) else (if a2 > (l1.length : Int) then (bitloftlaw21_DecoderParts.j0 k l0 l1 a2 t205 true) else (bitloftlaw21_DecoderParts.j0 k l0 l1 a2 t205 (!t205)))) else (bitloftlaw21_DecoderParts.j0 k l0 l1 a2 t205 true)) = some r := H
        have A9 := Aside0.mk A90
        clear A90
        by_cases c10 : t206 = 0
        · rw [if_pos c10] at H
          have c10b0 : (t206 == 0) = true := beq_iff_eq.mpr c10
          have c10b1 : (t206 != 0) = false := bne_eq_false_iff_eq.mpr c10
          clear c10
          by_cases c11 : a2 < 0
          · rw [if_pos c11] at H
            have c11b0 : decide (a2 < 0) = true := decide_eq_true c11
            clear c11
            have H' := Aside0.mk H
            clear H
            go_wp2_with (first | (go_at_call 57; (with_reducible refine (bitloftref20_Probs.calls k _ _ l1 (l1.length : Int) t206 _ ?side1 ?side2 A9.out).mono ?_); (case side1 => repeat (first | exact (Kd.C_below HR1.out HB.out) | (with_reducible refine Kd.C_alloc ?_ _) | (with_reducible refine Kd.C_drewN ?_ _) | (with_reducible refine Kd.C_drew ?_))); (case side2 => exact HC1.out); rintro e w' ⟨rfl, ⟨nd, rfl⟩⟩))
            go_meet
            case rel => exact ⟨_, (true), (by first | rfl | (simp; done) | (simp [*]; done)), H', ⟨by first | omega | exact Nat.le_refl _⟩, ⟨by repeat (first | (with_reducible first | exact HB.out | apply below_alloc | apply pw_below_drewN | apply below_drew1) | exact HB.out)⟩⟩
          · rw [if_neg c11] at H
            have c11b0 : decide (a2 < 0) = false := decide_eq_false c11
            clear c11
            by_cases c12 : a2 > (l1.length : Int)
            · rw [if_pos c12] at H
              have c12b0 : decide ((l1.length : Int) < a2) = true := decide_eq_true c12
              clear c12
              have H' := Aside0.mk H
              clear H
              go_wp2_with (first | (go_at_call 57; (with_reducible refine (bitloftref20_Probs.calls k _ _ l1 (l1.length : Int) t206 _ ?side1 ?side2 A9.out).mono ?_); (case side1 => repeat (first | exact (Kd.C_below HR1.out HB.out) | (with_reducible refine Kd.C_alloc ?_ _) | (with_reducible refine Kd.C_drewN ?_ _) | (with_reducible refine Kd.C_drew ?_))); (case side2 => exact HC1.out); rintro e w' ⟨rfl, ⟨nd, rfl⟩⟩))
              go_meet
              case rel => exact ⟨_, (true), (by first | rfl | (simp; done) | (simp [*]; done)), H', ⟨by first | omega | exact Nat.le_refl _⟩, ⟨by repeat (first | (with_reducible first | exact HB.out | apply below_alloc | apply pw_below_drewN | apply below_drew1) | exact HB.out)⟩⟩
            · rw [if_neg c12] at H
              have c12b0 : decide ((l1.length : Int) < a2) = false := decide_eq_false c12
              clear c12
              have H' := Aside0.mk H
              clear H
              go_wp2_with (first | (go_at_call 57; (with_reducible refine (bitloftref20_Probs.calls k _ _ l1 (l1.length : Int) t206 _ ?side1 ?side2 A9.out).mono ?_); (case side1 => repeat (first | exact (Kd.C_below HR1.out HB.out) | (with_reducible refine Kd.C_alloc ?_ _) | (with_reducible refine Kd.C_drewN ?_ _) | (with_reducible refine Kd.C_drew ?_))); (case side2 => exact HC1.out); rintro e w' ⟨rfl, ⟨nd, rfl⟩⟩))
              go_meet
              case rel => exact ⟨_, (!t205), (by first | rfl | (simp; done) | (simp [*]; done)), H', ⟨by first | omega | exact Nat.le_refl _⟩, ⟨by repeat (first | (with_reducible first | exact HB.out | apply below_alloc | apply pw_below_drewN | apply below_drew1) | exact HB.out)⟩⟩
        · rw [if_neg c10] at H
          have c10b0 : (t206 == 0) = false := beq_eq_false_iff_ne.mpr c10
          have c10b1 : (t206 != 0) = true := bne_iff_ne.mpr c10
          have H' := Aside0.mk H
          clear H
          go_wp2_with (first | (go_at_call 57; (with_reducible refine (bitloftref20_Probs.calls k _ _ l1 (l1.length : Int) t206 _ ?side1 ?side2 A9.out).mono ?_); (case side1 => repeat (first | exact (Kd.C_below HR1.out HB.out) | (with_reducible refine Kd.C_alloc ?_ _) | (with_reducible refine Kd.C_drewN ?_ _) | (with_reducible refine Kd.C_drew ?_))); (case side2 => exact HC1.out); rintro e w' ⟨rfl, ⟨nd, rfl⟩⟩))
          go_meet
          case rel => exact ⟨_, (true), (by first | rfl | (simp; done) | (simp [*]; done)), H', ⟨by first | omega | exact Nat.le_refl _⟩, ⟨by repeat (first | (with_reducible first | exact HB.out | apply below_alloc | apply pw_below_drewN | apply below_drew1) | exact HB.out)⟩⟩
  case rest =>
    clear HC5
    try clear c1
    try clear p2
    try clear c5
    try clear c7
    try clear c7b0
    try clear c7b1
    try clear c8
    try clear c8b0
    try clear c8b1
    try clear c10
    try clear c10b0
    try clear c10b1
    try clear c11
    try clear c11b0
    try clear c12
    try clear c12b0
    obtain ⟨kq, x47_4, rfl, HA, HJ4, HB⟩ := hcut
    cases kq with
    | zero => exact absurd HA.out (by simp [bitloftlaw21_DecoderParts.j0])
    | succ kj4 =>
      have H := HA.out
      clear HA
      simp only [bitloftlaw21_DecoderParts.j0] at H
      by_cases c13 : x47_4 = true
      · subst c13
        have H1 : (some t205) = some r := by rw [if_pos rfl] at H; exact H
        clear H
        have H := H1
        clear H1
        obtain rfl := Option.some.inj H
        go_wp2
        go_ret
        exact ⟨by first | rfl | (simp [errW_none, errW_some] <;> rfl) | (simp [*, errW_none, errW_some] <;> rfl), by repeat (first | (with_reducible first | exact HB.out | apply below_alloc | apply pw_below_drewN | apply below_drew1) | exact HB.out)⟩
      · replace c13 := Bool.eq_false_iff.mpr c13
        subst c13
        have H1 : ((decoder_Run.f kj4 l0 l1).bind fun bt207 => (if 0 ≤ a2 then (if a2 ≤ (l1.length : Int) then ((decoder_Run.f kj4 l0 (l1.take (a2 : Int).toNat)).bind fun bt212 => ((decoder_New.f kj4 l0).bind fun bt216 => (if bt207.2 = 0 then (if bt212.2 = 0 then (if bt216.2.2.2.2.2 = 0 then (if (bt207.1.length : Int) = (l1.length : Int) then (if (bt212.1.length : Int) = a2 then (if a2 ≤ (bt207.1.length : Int) then ((bitloftref14_Same.f kj4 (bt207.1.take (a2 : Int).toNat) bt212.1).bind fun t229 => (bitloftlaw21_DecoderParts.j1 kj4 l1 t205 bt207.1 (!t229) bt216.1 bt216.2.1 bt216.2.2.1 bt216.2.2.2.1 bt216.2.2.2.2.1)) else (none)) else (bitloftlaw21_DecoderParts.j1 kj4 l1 t205 bt207.1 true bt216.1 bt216.2.1 bt216.2.2.1 bt216.2.2.2.1 bt216.2.2.2.2.1)) else (bitloftlaw21_DecoderParts.j1 kj4 l1 t205 bt207.1 true bt216.1 bt216.2.1 bt216.2.2.1 bt216.2.2.2.1 bt216.2.2.2.2.1)) else (bitloftlaw21_DecoderParts.j1 kj4 l1 t205 bt207.1 true bt216.1 bt216.2.1 bt216.2.2.1 bt216.2.2.2.1 bt216.2.2.2.2.1)) else (bitloftlaw21_DecoderParts.j1 kj4 l1 t205 bt207.1 true bt216.1 bt216.2.1 bt216.2.2.1 bt216.2.2.2.1 bt216.2.2.2.2.1)) else (bitloftlaw21_DecoderParts.j1 kj4 l1 t205 bt207.1 true bt216.1 bt216.2.1 bt216.2.2.1 bt216.2.2.2.1 bt216.2.2.2.2.1)))) else (none)) else (none))) = some r := by rw [if_neg (show ¬ (false = true) by decide)] at H; exact H
        clear H
        have H := H1
        clear H1
        replace H := Option.bind_eq_some_iff.mp H
        obtain ⟨⟨t207, t208⟩, A140, H⟩ := H
        replace H : (if 0 ≤ a2 then (if a2 ≤ (l1.length : Int) then ((decoder_Run.f kj4 l0 (l1.take (a2 : Int).toNat)).bind fun bt212 => ((decoder_New.f kj4 l0).bind fun bt216 => (if t208 = 0 then (if bt212.2 = 0 then (if bt216.2.2.2.2.2 = 0 then (if (t207.length : Int) = (l1.length : Int) then (if (bt212.1.length : Int) = a2 then (if a2 ≤ (t207.length : Int) then ((bitloftref14_Same.f kj4 (t207.take (a2 : Int).toNat) bt212.1).bind fun t229 => (bitloftlaw21_DecoderParts.j1 kj4 l1 t205 t207 (!t229) bt216.1 bt216.2.1 bt216.2.2.1 bt216.2.2.2.1 bt216.2.2.2.2.1)) else (none)) else (bitloftlaw21_DecoderParts.j1 kj4 l1 t205 t207 true bt216.1 bt216.2.1 bt216.2.2.1 bt216.2.2.2.1 bt216.2.2.2.2.1)) else (bitloftlaw21_DecoderParts.j1 kj4 l1 t205 t207 true bt216.1 bt216.2.1 bt216.2.2.1 bt216.2.2.2.1 bt216.2.2.2.2.1)) else (bitloftlaw21_DecoderParts.j1 kj4 l1 t205 t207 true bt216.1 bt216.2.1 bt216.2.2.1 bt216.2.2.2.1 bt216.2.2.2.2.1)) else (bitloftlaw21_DecoderParts.j1 kj4 l1 t205 t207 true bt216.1 bt216.2.1 bt216.2.2.1 bt216.2.2.2.1 bt216.2.2.2.2.1)) else (bitloftlaw21_DecoderParts.j1 kj4 l1 t205 t207 true bt216.1 bt216.2.1 bt216.2.2.1 bt216.2.2.2.1 bt216.2.2.2.2.1)))) else (none)) else (none)) = some r := H
        have A14 := Aside0.mk A140
        clear A140
        by_cases c15 : 0 ≤ a2
        · rw [if_pos c15] at H
          have c15b0 := eq_true c15
          have c15b1 : decide (0 ≤ a2) = true := decide_eq_true c15
          clear c15
          by_cases c16 : a2 ≤ (l1.length : Int)
          · rw [if_pos c16] at H
            have c16b0 := eq_true c16
            have c16b1 : decide (a2 ≤ (l1.length : Int)) = true := decide_eq_true c16
            clear c16
            replace H := Option.bind_eq_some_iff.mp H
            obtain ⟨⟨t212, t213⟩, A170, H⟩ := H
            replace H : ((decoder_New.f kj4 l0).bind fun bt216 => (if t208 = 0 then (if t213 = 0 then (if bt216.2.2.2.2.2 = 0 then (if (t207.length : Int) = (l1.length : Int) then (if (t212.length : Int) = a2 then (if a2 ≤ (t207.length : Int) then ((bitloftref14_Same.f kj4 (t207.take (a2 : Int).toNat) t212).bind fun t229 => (bitloftlaw21_DecoderParts.j1 kj4 l1 t205 t207 (!t229) bt216.1 bt216.2.1 bt216.2.2.1 bt216.2.2.2.1 bt216.2.2.2.2.1)) else (none)) else (bitloftlaw21_DecoderParts.j1 kj4 l1 t205 t207 true bt216.1 bt216.2.1 bt216.2.2.1 bt216.2.2.2.1 bt216.2.2.2.2.1)) else (bitloftlaw21_DecoderParts.j1 kj4 l1 t205 t207 true bt216.1 bt216.2.1 bt216.2.2.1 bt216.2.2.2.1 bt216.2.2.2.2.1)) else (bitloftlaw21_DecoderParts.j1 kj4 l1 t205 t207 true bt216.1 bt216.2.1 bt216.2.2.1 bt216.2.2.2.1 bt216.2.2.2.2.1)) else (bitloftlaw21_DecoderParts.j1 kj4 l1 t205 t207 true bt216.1 bt216.2.1 bt216.2.2.1 bt216.2.2.2.1 bt216.2.2.2.2.1)) else (bitloftlaw21_DecoderParts.j1 kj4 l1 t205 t207 true bt216.1 bt216.2.1 bt216.2.2.1 bt216.2.2.2.1 bt216.2.2.2.2.1))) = some r := H
            have A17 := Aside0.mk A170
            clear A170
            replace H := Option.bind_eq_some_iff.mp H
            obtain ⟨⟨t216, t217, t218, t219, t222, t223⟩, A180, H⟩ := H
            replace H : (if t208 = 0 then (if t213 = 0 then (if t223 = 0 then (if (t207.length : Int) = (l1.length : Int) then (if (t212.length : Int) = a2 then (if a2 ≤ (t207.length : Int) then ((bitloftref14_Same.f kj4 (t207.take (a2 : Int).toNat) t212).bind fun t229 => (bitloftlaw21_DecoderParts.j1 kj4 l1 t205 t207 (!t229) t216 t217 t218 t219 t222)) else (none)) else (bitloftlaw21_DecoderParts.j1 kj4 l1 t205 t207 true t216 t217 t218 t219 t222)) else (bitloftlaw21_DecoderParts.j1 kj4 l1 t205 t207 true t216 t217 t218 t219 t222)) else (bitloftlaw21_DecoderParts.j1 kj4 l1 t205 t207 true t216 t217 t218 t219 t222)) else (bitloftlaw21_DecoderParts.j1 kj4 l1 t205 t207 true t216 t217 t218 t219 t222)) else (bitloftlaw21_DecoderParts.j1 kj4 l1 t205 t207 true t216 t217 t218 t219 t222)) = some r := H
            have A18 := Aside0.mk A180
            clear A180
            have HC19 := Aside0.mk H
            clear H
            go_upto_region 7 with (first | ((with_reducible refine gate_callee (f := 39) rfl ?_); refine goesL_ (some 52) rfl rfl Try.func39 (by kernel_rfl) rfl #[.slice A0 l0.length c0, .slice A1 l1.length c1] rfl (by (try simp only [List.map_toArray, List.map_cons, List.map_nil]); first | done | rfl | (simp only [List.length_drop, List.length_take]; rfl)) ?_; (with_reducible refine (decoder_Run.calls kj4 _ _ l0 _ _ l1 t207 t208 _ ?side1 ?side2 ?side3 ?side4 A14.out).mono ?_); (case side1 => repeat (first | exact (Kd.C_below HR0.out HB.out) | (with_reducible refine Kd.C_alloc ?_ _) | (with_reducible refine Kd.C_drewN ?_ _) | (with_reducible refine Kd.C_drew ?_))); (case side2 => exact HC0.out); (case side3 => repeat (first | exact (Kd.C_below HR1.out HB.out) | (with_reducible refine Kd.C_alloc ?_ _) | (with_reducible refine Kd.C_drewN ?_ _) | (with_reducible refine Kd.C_drew ?_))); (case side4 => exact HC1.out); rintro e w20 ⟨v209, rfl, ho0, hb⟩; refine ⟨_, rfl, ?_⟩; have n0_ := Aside0.mk (Kd.R_lower ho0 (below_size (by repeat (first | (with_reducible first | exact HB.out | apply below_alloc | apply pw_below_drewN | apply below_drew1) | exact HB.out)))); have n1_ := Aside0.mk (below_step (by repeat (first | (with_reducible first | exact HB.out | apply below_alloc | apply pw_below_drewN | apply below_drew1) | exact HB.out)) hb); clear HB; have HO210 := n0_; have HB := n1_; clear n0_ n1_; (try clear hb); (try clear hb2); (try clear hk); (try clear hi); (try clear ho0); obtain ⟨i021, hi021, _, hsz21, _⟩ := info_parts info3; obtain ⟨hcut21, hA21, hC21⟩ := print_take_of (P := Try.prog) (Value.int .i64) 0 28 3 .i64 Try.underlying28 hi021 hsz21 A1 c1 l1 a2 (of_decide_eq_true (by first | (with_reducible assumption) | assumption)) (of_decide_eq_true (by first | (with_reducible assumption) | assumption)) HC1.out; have HR211 := Aside0.mk (Kd.C_of_reads (h1 := fun _ => rfl) (hA21 _ (Kd.reads_of_C HR1.out))); have HC211 := Aside0.mk hC21; clear hA21 hC21 hi021 hsz21) | ((with_reducible refine gate_callee (f := 39) rfl ?_); refine goesL_ (some 60) rfl rfl Try.func39 (by kernel_rfl) rfl #[.slice A0 l0.length c0, .slice A1 (l1.take (a2 : Int).toNat).length c1] rfl (by (try simp only [List.map_toArray, List.map_cons, List.map_nil]); first | done | (rw [show (l1.take (a2 : Int).toNat).length = a2.toNat from (by rw [List.length_take]; have h_ : (a2 : Int) ≤ (l1.length : Int) := of_decide_eq_true (by first | (with_reducible assumption) | assumption); omega)] <;> rfl) | rfl | (simp only [List.length_drop, List.length_take]; rfl)) ?_; (with_reducible refine (decoder_Run.calls kj4 _ _ l0 _ _ (l1.take (a2 : Int).toNat) t212 t213 _ ?side1 ?side2 ?side3 ?side4 A17.out).mono ?_); (case side1 => repeat (first | exact (Kd.C_below HR0.out HB.out) | (with_reducible refine Kd.C_alloc ?_ _) | (with_reducible refine Kd.C_drewN ?_ _) | (with_reducible refine Kd.C_drew ?_))); (case side2 => exact HC0.out); (case side3 => repeat (first | exact (Kd.C_below HR211.out HB.out) | (with_reducible refine Kd.C_alloc ?_ _) | (with_reducible refine Kd.C_drewN ?_ _) | (with_reducible refine Kd.C_drew ?_))); (case side4 => exact HC211.out); rintro e w22 ⟨v214, rfl, ho0, hb⟩; refine ⟨_, rfl, ?_⟩; have n0_ := Aside0.mk (Kd.R_elder' (by (with_reducible repeat (first | apply Kd.R_alloc | apply Kd.R_drewN | apply Kd.R_drew)); exact HO210.out) (Kd.R_base ho0) hb); have n1_ := Aside0.mk (Kd.R_lower (Kd.R_new' ho0 (Kd.R_lt (by (with_reducible repeat (first | apply Kd.R_alloc | apply Kd.R_drewN | apply Kd.R_drew)); exact HO210.out))) (below_size (by repeat (first | (with_reducible first | exact HB.out | apply below_alloc | apply pw_below_drewN | apply below_drew1) | exact HB.out)))); have n2_ := Aside0.mk (below_step (by repeat (first | (with_reducible first | exact HB.out | apply below_alloc | apply pw_below_drewN | apply below_drew1) | exact HB.out)) hb); clear HO210; clear HB; have HO210 := n0_; have HO215 := n1_; have HB := n2_; clear n0_ n1_ n2_; (try clear hb); (try clear hb2); (try clear hk); (try clear hi); (try clear ho0)) | ((with_reducible refine gate_callee (f := 48) rfl ?_); refine goesL_ (some 65) rfl rfl Try.func48 (by kernel_rfl) rfl #[.slice A0 l0.length c0] rfl (by (try simp only [List.map_toArray, List.map_cons, List.map_nil]); first | done | rfl | (simp only [List.length_drop, List.length_take]; rfl)) ?_; (with_reducible refine (decoder_New.calls kj4 _ _ l0 t216 t217 t218 t219 t222 t223 _ ?side1 ?side2 A18.out).mono ?_); (case side1 => repeat (first | exact (Kd.C_below HR0.out HB.out) | (with_reducible refine Kd.C_alloc ?_ _) | (with_reducible refine Kd.C_drewN ?_ _) | (with_reducible refine Kd.C_drew ?_))); (case side2 => exact HC0.out); rintro e w23 ⟨v220, rfl, ho0, hb⟩; refine ⟨_, rfl, ?_⟩; have n0_ := Aside0.mk (Kd.R_below (by (with_reducible repeat (first | apply Kd.R_alloc | apply Kd.R_drewN | apply Kd.R_drew)); exact HO210.out) hb); have n1_ := Aside0.mk (Kd.R_below (by (with_reducible repeat (first | apply Kd.R_alloc | apply Kd.R_drewN | apply Kd.R_drew)); exact HO215.out) hb); have n2_ := Aside0.mk (Kd.R_lower ho0 (below_size (by repeat (first | (with_reducible first | exact HB.out | apply below_alloc | apply pw_below_drewN | apply below_drew1) | exact HB.out)))); have n3_ := Aside0.mk (below_step (by repeat (first | (with_reducible first | exact HB.out | apply below_alloc | apply pw_below_drewN | apply below_drew1) | exact HB.out)) hb); clear HO210; clear HO215; clear HB; have HO210 := n0_; have HO215 := n1_; have HO221 := n2_; have HB := n3_; clear n0_ n1_ n2_ n3_; (try clear hb); (try clear hb2); (try clear hk); (try clear hi); (try clear ho0)) | ((with_reducible refine gate_dst (N := 12) rfl ?_); (try (refine gate_guard (by rfl) ?_; dsimp only)); refine box_event ?hg (N := 12) ?hd (cs := #[.int .u32 0, .int .u32 0, .int .u32 0, .slice none 0 0, .int .i64 0]) (t := 72) ?hr ?_; (case hd => rfl); (case hg => rfl); (case hr => first | (go_simp; done) | (go_simp; rfl)); intro gb224 hg w24 hbox hb; have n0_ := Aside0.mk (Kd.R_below (by (with_reducible repeat (first | apply Kd.R_alloc | apply Kd.R_drewN | apply Kd.R_drew)); exact HO210.out) hb); have n1_ := Aside0.mk (Kd.R_below (by (with_reducible repeat (first | apply Kd.R_alloc | apply Kd.R_drewN | apply Kd.R_drew)); exact HO215.out) hb); have n2_ := Aside0.mk (Kd.R_below (by (with_reducible repeat (first | apply Kd.R_alloc | apply Kd.R_drewN | apply Kd.R_drew)); exact HO221.out) hb); have n3_ := Aside0.mk (below_step (by repeat (first | (with_reducible first | exact HB.out | apply below_alloc | apply pw_below_drewN | apply below_drew1) | exact HB.out)) hb); have n4_ := Aside0.mk (hbox); have n5_ := Aside0.mk ((by rw [hg]; exact (below_size (by repeat (first | (with_reducible first | exact HB.out | apply below_alloc | apply pw_below_drewN | apply below_drew1) | exact HB.out))) : w.heap.size ≤ gb224)); have n6_ := Aside0.mk ((by rw [hg]; exact (below_size (by repeat (first | (with_reducible first | exact HB.out | apply below_alloc | apply pw_below_drewN | apply below_drew1) | exact HB.out))) : w.heap.size ≤ gb224)); clear HO210; clear HO215; clear HO221; clear HB; have HO210 := n0_; have HO215 := n1_; have HO221 := n2_; have HB := n3_; have BK224 := n4_; have GW224 := n5_; have GE224 := n6_; clear n0_ n1_ n2_ n3_ n4_ n5_ n6_; clear hb hbox hg; have hcz25_0 : w24.cell? ⟨gb224, 0, none⟩ = some (.int .u32 0) := (blk_cell BK224.out 0).trans rfl; have hcz25_1 : w24.cell? ⟨gb224, 1, none⟩ = some (.int .u32 0) := (blk_cell BK224.out 1).trans rfl; have hcz25_2 : w24.cell? ⟨gb224, 2, none⟩ = some (.int .u32 0) := (blk_cell BK224.out 2).trans rfl; have hcz25_3 : w24.cell? ⟨gb224, 3, none⟩ = some (.slice none 0 0) := (blk_cell BK224.out 3).trans rfl; have hcz25_4 : w24.cell? ⟨gb224, 4, none⟩ = some (.int .i64 0) := (blk_cell BK224.out 4).trans rfl; have hfz25_0 := blk_frozen BK224.out 0; have hfz25_1 := blk_frozen BK224.out 1; have hfz25_2 := blk_frozen BK224.out 2; have hfz25_3 := blk_frozen BK224.out 3; have hfz25_4 := blk_frozen BK224.out 4; obtain ⟨Ao26, co26, eo26⟩ := Kd.R_slice HO221.out; subst eo26))
            (try simp only [Act.put, List.setIfInBounds_toArray, List.set_cons_zero, List.set_cons_succ])
            go_cut [98] (fun v98 wc => ∃ (kq : Nat) (x98_18 : Bool), v98 = .bool x98_18 ∧ Aside0 (bitloftlaw21_DecoderParts.j1 kq l1 t205 t207 x98_18 t216 t217 t218 t219 t222 = some r) ∧ Aside0 (kq ≤ kj4) ∧ Aside0 (Kd.R Kd.bool 4 wc w.heap.size (fun _ => True) v209 t207) ∧ Aside0 (Kd.R (Kd.int .u8) 5 wc w.heap.size (fun _ => True) (.slice Ao26 t219.length co26) t219) ∧ Aside0 (wc.heap[gb224]? = some (.cells #[.int .u32 t216, .int .u32 t217, .int .u32 t218, (.slice Ao26 t219.length co26), .int .i64 t222] 72 (0, 0))) ∧ Aside0 (Below w.heap.size w wc))
            case first =>
              have H := HC19.out
              clear HC19
              by_cases c27 : t208 = 0
              · rw [if_pos c27] at H
                have c27b0 : (t208 == 0) = true := beq_iff_eq.mpr c27
                have c27b1 : (t208 != 0) = false := bne_eq_false_iff_eq.mpr c27
                clear c27
                (first | rw [c27b0] | (simp only [i64_w, i32_w]; rw [c27b0]) | skip)
                by_cases c28 : t213 = 0
                · rw [if_pos c28] at H
                  have c28b0 : (t213 == 0) = true := beq_iff_eq.mpr c28
                  have c28b1 : (t213 != 0) = false := bne_eq_false_iff_eq.mpr c28
                  clear c28
                  by_cases c29 : t223 = 0
                  · rw [if_pos c29] at H
                    have c29b0 : (t223 == 0) = true := beq_iff_eq.mpr c29
                    have c29b1 : (t223 != 0) = false := bne_eq_false_iff_eq.mpr c29
                    clear c29
                    by_cases c30 : (t207.length : Int) = (l1.length : Int)
                    · rw [if_pos c30] at H
                      have c30b0 : ((t207.length : Int) == (l1.length : Int)) = true := beq_iff_eq.mpr c30
                      have c30b1 : ((t207.length : Int) != (l1.length : Int)) = false := bne_eq_false_iff_eq.mpr c30
                      have c30b2 : (t207.length == l1.length) = true := by first | simpa using c30 | (simp at c30 ⊢; omega)
                      clear c30
                      by_cases c31 : (t212.length : Int) = a2
                      · rw [if_pos c31] at H
                        have c31b0 : ((t212.length : Int) == a2) = true := beq_iff_eq.mpr c31
                        have c31b1 : ((t212.length : Int) != a2) = false := bne_eq_false_iff_eq.mpr c31
                        clear c31
                        have c32b0 := eq_true (of_decide_eq_true (by first | (with_reducible assumption) | assumption) : 0 ≤ a2)
                        by_cases c33 : a2 ≤ (t207.length : Int)
                        · rw [if_pos c33] at H
                          have c33b0 := eq_true c33
                          have c33b1 : decide (a2 ≤ (t207.length : Int)) = true := decide_eq_true c33
                          clear c33
                          obtain ⟨y225, hy225⟩ : ∃ y_ : List Bool, y_ = (t207.take (a2 : Int).toNat) := ⟨_, rfl⟩
                          replace H : ((bitloftref14_Same.f kj4 y225 t212).bind fun t229 => (bitloftlaw21_DecoderParts.j1 kj4 l1 t205 t207 (!t229) t216 t217 t218 t219 t222)) = some r := by first | (rw [hy225]; with_reducible exact H) | (have H2_ := (Option.bind_some _ _).symm.trans H; rw [hy225]; with_reducible exact H2_) | (have H2_ := (Option.bind_some _ _).symm.trans H; with_reducible exact H2_) | with_reducible exact H | (rw [hy225]; exact H) | exact H
                          have Ny225 := Aside0.mk hy225
                          clear hy225
                          replace H := Option.bind_eq_some_iff.mp H
                          obtain ⟨t229, A340, H⟩ := H
                          replace H : (bitloftlaw21_DecoderParts.j1 kj4 l1 t205 t207 (!t229) t216 t217 t218 t219 t222) = some r := H
                          have A34 := Aside0.mk A340
                          clear A340
                          have H' := Aside0.mk H
                          clear H
                          obtain ⟨Ao35, co35, eo35⟩ := Kd.R_slice HO210.out
                          subst eo35
                          obtain ⟨Ao36, co36, eo36⟩ := Kd.R_slice HO215.out
                          subst eo36
                          have n0_ : Aside0 (Kd.R Kd.bool 4 (((((w24.setCell ⟨gb224, 0, none⟩ (.int .u32 t216)).setCell ⟨gb224, 1, none⟩ (.int .u32 t217)).setCell ⟨gb224, 2, none⟩ (.int .u32 t218)).setCell ⟨gb224, 3, none⟩ (.slice Ao26 t219.length co26)).setCell ⟨gb224, 4, none⟩ (.int .i64 t222)) w.heap.size (fun k_ => some k_ ≠ (.slice Ao36 t212.length co36 : Value).ownBlock) (.slice Ao35 t207.length co35) t207) := ⟨by (with_reducible repeat (first | apply Kd.R_alloc | apply Kd.R_drewN | apply Kd.R_drew)); exact Kd.R_mono (Kd.R_far (p := ⟨gb224, 4, none⟩) (Kd.R_far (p := ⟨gb224, 3, none⟩) (Kd.R_far (p := ⟨gb224, 2, none⟩) (Kd.R_far (p := ⟨gb224, 1, none⟩) (Kd.R_far (p := ⟨gb224, 0, none⟩) (Kd.R_types HO210.out BK224.out (by decide)) (fun _ hk => hk.2) (.int .u32 t216)) (fun _ hk => hk.2) (.int .u32 t217)) (fun _ hk => hk.2) (.int .u32 t218)) (fun _ hk => hk.2) (.slice Ao26 t219.length co26)) (fun _ hk => hk.2) (.int .i64 t222)) (fun _ hk => hk.1.2)⟩
                          have n1_ : Aside0 (Kd.R Kd.bool 4 (((((w24.setCell ⟨gb224, 0, none⟩ (.int .u32 t216)).setCell ⟨gb224, 1, none⟩ (.int .u32 t217)).setCell ⟨gb224, 2, none⟩ (.int .u32 t218)).setCell ⟨gb224, 3, none⟩ (.slice Ao26 t219.length co26)).setCell ⟨gb224, 4, none⟩ (.int .i64 t222)) w.heap.size (fun k_ => some k_ ≠ (.slice Ao35 t207.length co35 : Value).ownBlock) (.slice Ao36 t212.length co36) t212) := ⟨by (with_reducible repeat (first | apply Kd.R_alloc | apply Kd.R_drewN | apply Kd.R_drew)); exact Kd.R_mono (Kd.R_far (p := ⟨gb224, 4, none⟩) (Kd.R_far (p := ⟨gb224, 3, none⟩) (Kd.R_far (p := ⟨gb224, 2, none⟩) (Kd.R_far (p := ⟨gb224, 1, none⟩) (Kd.R_far (p := ⟨gb224, 0, none⟩) (Kd.R_types HO215.out BK224.out (by decide)) (fun _ hk => hk.2) (.int .u32 t216)) (fun _ hk => hk.2) (.int .u32 t217)) (fun _ hk => hk.2) (.int .u32 t218)) (fun _ hk => hk.2) (.slice Ao26 t219.length co26)) (fun _ hk => hk.2) (.int .i64 t222)) (fun _ hk => hk.1.2)⟩
                          have n2_ : Aside0 (Kd.R (Kd.int .u8) 5 (((((w24.setCell ⟨gb224, 0, none⟩ (.int .u32 t216)).setCell ⟨gb224, 1, none⟩ (.int .u32 t217)).setCell ⟨gb224, 2, none⟩ (.int .u32 t218)).setCell ⟨gb224, 3, none⟩ (.slice Ao26 t219.length co26)).setCell ⟨gb224, 4, none⟩ (.int .i64 t222)) w.heap.size (fun _ => True) (.slice Ao26 t219.length co26) t219) := ⟨by (with_reducible repeat (first | apply Kd.R_alloc | apply Kd.R_drewN | apply Kd.R_drew)); exact Kd.R_mono (Kd.R_far (p := ⟨gb224, 4, none⟩) (Kd.R_far (p := ⟨gb224, 3, none⟩) (Kd.R_far (p := ⟨gb224, 2, none⟩) (Kd.R_far (p := ⟨gb224, 1, none⟩) (Kd.R_far (p := ⟨gb224, 0, none⟩) (Kd.R_types HO221.out BK224.out (by decide)) (fun _ hk => hk.2) (.int .u32 t216)) (fun _ hk => hk.2) (.int .u32 t217)) (fun _ hk => hk.2) (.int .u32 t218)) (fun _ hk => hk.2) (.slice Ao26 t219.length co26)) (fun _ hk => hk.2) (.int .i64 t222)) (fun _ hk => trivial)⟩
                          have n3_ : Aside0 ((((((w24.setCell ⟨gb224, 0, none⟩ (.int .u32 t216)).setCell ⟨gb224, 1, none⟩ (.int .u32 t217)).setCell ⟨gb224, 2, none⟩ (.int .u32 t218)).setCell ⟨gb224, 3, none⟩ (.slice Ao26 t219.length co26)).setCell ⟨gb224, 4, none⟩ (.int .i64 t222)).heap[gb224]? = some (.cells #[.int .u32 t216, .int .u32 t217, .int .u32 t218, .slice Ao26 t219.length co26, .int .i64 t222] 72 (0, 0))) := ⟨by (with_reducible repeat (first | refine blk_drewN ?_ _ | refine blk_drew ?_ | refine blk_alloc ?_ _)); refine blk_put (cs := #[.int .u32 t216, .int .u32 t217, .int .u32 t218, .slice Ao26 t219.length co26, .int .i64 0]) ?_ 4 _ rfl; (with_reducible repeat (first | refine blk_drewN ?_ _ | refine blk_drew ?_ | refine blk_alloc ?_ _)); refine blk_put (cs := #[.int .u32 t216, .int .u32 t217, .int .u32 t218, .slice none 0 0, .int .i64 0]) ?_ 3 _ rfl; (with_reducible repeat (first | refine blk_drewN ?_ _ | refine blk_drew ?_ | refine blk_alloc ?_ _)); refine blk_put (cs := #[.int .u32 t216, .int .u32 t217, .int .u32 0, .slice none 0 0, .int .i64 0]) ?_ 2 _ rfl; (with_reducible repeat (first | refine blk_drewN ?_ _ | refine blk_drew ?_ | refine blk_alloc ?_ _)); refine blk_put (cs := #[.int .u32 t216, .int .u32 0, .int .u32 0, .slice none 0 0, .int .i64 0]) ?_ 1 _ rfl; (with_reducible repeat (first | refine blk_drewN ?_ _ | refine blk_drew ?_ | refine blk_alloc ?_ _)); refine blk_put (cs := #[.int .u32 0, .int .u32 0, .int .u32 0, .slice none 0 0, .int .i64 0]) ?_ 0 _ rfl; (with_reducible repeat (first | refine blk_drewN ?_ _ | refine blk_drew ?_ | refine blk_alloc ?_ _)); exact BK224.out⟩
                          have n4_ : Aside0 (Below w.heap.size w (((((w24.setCell ⟨gb224, 0, none⟩ (.int .u32 t216)).setCell ⟨gb224, 1, none⟩ (.int .u32 t217)).setCell ⟨gb224, 2, none⟩ (.int .u32 t218)).setCell ⟨gb224, 3, none⟩ (.slice Ao26 t219.length co26)).setCell ⟨gb224, 4, none⟩ (.int .i64 t222))) := ⟨by repeat (first | (with_reducible first | exact HB.out | apply below_alloc | apply pw_below_drewN | apply below_drew1 | refine below_set ?_ GE224.out) | exact HB.out)⟩
                          (try clear HO210)
                          (try clear HO215)
                          (try clear HO221)
                          (try clear BK224)
                          (try clear HB)
                          generalize (((((w24.setCell ⟨gb224, 0, none⟩ (.int .u32 t216)).setCell ⟨gb224, 1, none⟩ (.int .u32 t217)).setCell ⟨gb224, 2, none⟩ (.int .u32 t218)).setCell ⟨gb224, 3, none⟩ (.slice Ao26 t219.length co26)).setCell ⟨gb224, 4, none⟩ (.int .i64 t222)) = w38 at n0_ n1_ n2_ n3_ n4_ ⊢
                          have HO210 := n0_
                          have HO215 := n1_
                          have HO221 := n2_
                          have BK224 := n3_
                          have HB := n4_
                          clear n0_ n1_ n2_ n3_ n4_
                          have q37 : (a2 : Int) ≤ ((t207.length : Int) : Int) := of_decide_eq_true (by first | (with_reducible assumption) | assumption)
                          obtain ⟨i037, hi037, _, hsz37, _⟩ := info_parts info4
                          have hroom37 : t207.length ≤ co35 := (Kd.R_reads' HO210.out).2.1
                          have hC37 : Kd.C Kd.bool _ Ao35 t207.length t207 := (Kd.R_reads' HO210.out).2.2
                          have hcut37 := cut_to (P := Try.prog) 29 4 .i64 Try.underlying29 hi037 Ao35 t207.length co35 a2 (of_decide_eq_true (by first | (with_reducible assumption) | assumption)) q37 hroom37
                          have hr37 := Kd.C_take (m := (a2 : Int).toNat) hC37 (by omega)
                          have hy37 : y225.length = (a2 : Int).toNat := (by rw [Ny225.out, List.length_take]; omega)
                          rw [← Ny225.out] at hr37
                          rw [← hy37] at hcut37
                          have HR228 := Aside0.mk hr37
                          have HC228 := Aside0.mk (show y225.length ≤ co35 from by omega)
                          clear hr37 hC37 hroom37 hi037 hsz37
                          have KY37 := Aside0.mk hy37
                          clear hy37
                          have KL37 := Aside0.mk (show (a2 : Int).toNat ≤ t207.length from by omega)
                          replace q37 := eq_true q37
                          try go_wp2_with (first | (go_at_call 41; (with_reducible refine (bitloftref14_Same.calls kj4 _ _ y225 _ _ t212 t229 _ ?side1 ?side2 ?side3 ?side4 A34.out).mono ?_); (case side1 => repeat (first | exact (by repeat (first | (with_reducible exact HR228.out) | (with_reducible refine Kd.C_alloc ?_ _) | (with_reducible refine Kd.C_drewN ?_ _) | (with_reducible refine Kd.C_drew ?_) | exact HR228.out)) | (with_reducible refine Kd.C_alloc ?_ _) | (with_reducible refine Kd.C_drewN ?_ _) | (with_reducible refine Kd.C_drew ?_))); (case side2 => exact HC228.out); (case side3 => repeat (first | exact (Kd.R_reads' HO215.out).2.2 | (with_reducible refine Kd.C_alloc ?_ _) | (with_reducible refine Kd.C_drewN ?_ _) | (with_reducible refine Kd.C_drew ?_))); (case side4 => exact (Kd.R_reads' HO215.out).2.1); rintro e w' ⟨rfl, ⟨nd, rfl⟩⟩))
                          go_meet
                          case rel => exact ⟨_, (!t229), (by first | rfl | (simp; done) | (simp [*]; done)), H', ⟨by have := HJ4.out; first | omega | exact Nat.le_refl _⟩, ⟨by (with_reducible repeat (first | apply Kd.R_alloc | apply Kd.R_drewN | apply Kd.R_drew)); exact Kd.R_mono HO210.out (fun _ hk => by first | exact trivial | exact hk | exact hk.1 | exact hk.2 | exact hk.1.1 | exact hk.1.2)⟩, ⟨by (with_reducible repeat (first | apply Kd.R_alloc | apply Kd.R_drewN | apply Kd.R_drew)); exact HO221.out⟩, ⟨by (with_reducible repeat (first | refine blk_drewN ?_ _ | refine blk_drew ?_ | refine blk_alloc ?_ _)); exact BK224.out⟩, ⟨by repeat (first | (with_reducible first | exact HB.out | apply below_alloc | apply pw_below_drewN | apply below_drew1 | refine below_set ?_ GE224.out) | exact HB.out)⟩⟩
                        · rw [if_neg c33] at H
                          exact absurd H (by simp)
                      · rw [if_neg c31] at H
                        have c31b0 : ((t212.length : Int) == a2) = false := beq_eq_false_iff_ne.mpr c31
                        have c31b1 : ((t212.length : Int) != a2) = true := bne_iff_ne.mpr c31
                        have H' := Aside0.mk H
                        clear H
                        obtain ⟨Ao39, co39, eo39⟩ := Kd.R_slice HO210.out
                        subst eo39
                        obtain ⟨Ao40, co40, eo40⟩ := Kd.R_slice HO215.out
                        subst eo40
                        go_wp2
                        go_meet
                        case rel => exact ⟨_, (true), (by first | rfl | (simp; done) | (simp [*]; done)), H', ⟨by have := HJ4.out; first | omega | exact Nat.le_refl _⟩, ⟨by (with_reducible repeat (first | apply Kd.R_alloc | apply Kd.R_drewN | apply Kd.R_drew)); exact Kd.R_mono (Kd.R_far (p := ⟨gb224, 4, none⟩) (Kd.R_far (p := ⟨gb224, 3, none⟩) (Kd.R_far (p := ⟨gb224, 2, none⟩) (Kd.R_far (p := ⟨gb224, 1, none⟩) (Kd.R_far (p := ⟨gb224, 0, none⟩) (Kd.R_types HO210.out BK224.out (by decide)) (fun _ hk => hk.2) (.int .u32 t216)) (fun _ hk => hk.2) (.int .u32 t217)) (fun _ hk => hk.2) (.int .u32 t218)) (fun _ hk => hk.2) (.slice Ao26 t219.length co26)) (fun _ hk => hk.2) (.int .i64 t222)) (fun _ hk => trivial)⟩, ⟨by (with_reducible repeat (first | apply Kd.R_alloc | apply Kd.R_drewN | apply Kd.R_drew)); exact Kd.R_mono (Kd.R_far (p := ⟨gb224, 4, none⟩) (Kd.R_far (p := ⟨gb224, 3, none⟩) (Kd.R_far (p := ⟨gb224, 2, none⟩) (Kd.R_far (p := ⟨gb224, 1, none⟩) (Kd.R_far (p := ⟨gb224, 0, none⟩) (Kd.R_types HO221.out BK224.out (by decide)) (fun _ hk => hk.2) (.int .u32 t216)) (fun _ hk => hk.2) (.int .u32 t217)) (fun _ hk => hk.2) (.int .u32 t218)) (fun _ hk => hk.2) (.slice Ao26 t219.length co26)) (fun _ hk => hk.2) (.int .i64 t222)) (fun _ hk => trivial)⟩, ⟨by (with_reducible repeat (first | refine blk_drewN ?_ _ | refine blk_drew ?_ | refine blk_alloc ?_ _)); refine blk_put (cs := #[.int .u32 t216, .int .u32 t217, .int .u32 t218, .slice Ao26 t219.length co26, .int .i64 0]) ?_ 4 _ rfl; (with_reducible repeat (first | refine blk_drewN ?_ _ | refine blk_drew ?_ | refine blk_alloc ?_ _)); refine blk_put (cs := #[.int .u32 t216, .int .u32 t217, .int .u32 t218, .slice none 0 0, .int .i64 0]) ?_ 3 _ rfl; (with_reducible repeat (first | refine blk_drewN ?_ _ | refine blk_drew ?_ | refine blk_alloc ?_ _)); refine blk_put (cs := #[.int .u32 t216, .int .u32 t217, .int .u32 0, .slice none 0 0, .int .i64 0]) ?_ 2 _ rfl; (with_reducible repeat (first | refine blk_drewN ?_ _ | refine blk_drew ?_ | refine blk_alloc ?_ _)); refine blk_put (cs := #[.int .u32 t216, .int .u32 0, .int .u32 0, .slice none 0 0, .int .i64 0]) ?_ 1 _ rfl; (with_reducible repeat (first | refine blk_drewN ?_ _ | refine blk_drew ?_ | refine blk_alloc ?_ _)); refine blk_put (cs := #[.int .u32 0, .int .u32 0, .int .u32 0, .slice none 0 0, .int .i64 0]) ?_ 0 _ rfl; (with_reducible repeat (first | refine blk_drewN ?_ _ | refine blk_drew ?_ | refine blk_alloc ?_ _)); exact BK224.out⟩, ⟨by repeat (first | (with_reducible first | exact HB.out | apply below_alloc | apply pw_below_drewN | apply below_drew1 | refine below_set ?_ GE224.out) | exact HB.out)⟩⟩
                    · rw [if_neg c30] at H
                      have c30b0 : ((t207.length : Int) == (l1.length : Int)) = false := beq_eq_false_iff_ne.mpr c30
                      have c30b1 : ((t207.length : Int) != (l1.length : Int)) = true := bne_iff_ne.mpr c30
                      have c30b2 : (t207.length == l1.length) = false := by first | simpa using c30 | (simp at c30 ⊢; omega)
                      have H' := Aside0.mk H
                      clear H
                      obtain ⟨Ao41, co41, eo41⟩ := Kd.R_slice HO210.out
                      subst eo41
                      go_wp2
                      go_meet
                      case rel => exact ⟨_, (true), (by first | rfl | (simp; done) | (simp [*]; done)), H', ⟨by have := HJ4.out; first | omega | exact Nat.le_refl _⟩, ⟨by (with_reducible repeat (first | apply Kd.R_alloc | apply Kd.R_drewN | apply Kd.R_drew)); exact Kd.R_mono (Kd.R_far (p := ⟨gb224, 4, none⟩) (Kd.R_far (p := ⟨gb224, 3, none⟩) (Kd.R_far (p := ⟨gb224, 2, none⟩) (Kd.R_far (p := ⟨gb224, 1, none⟩) (Kd.R_far (p := ⟨gb224, 0, none⟩) (Kd.R_types HO210.out BK224.out (by decide)) (fun _ hk => hk.2) (.int .u32 t216)) (fun _ hk => hk.2) (.int .u32 t217)) (fun _ hk => hk.2) (.int .u32 t218)) (fun _ hk => hk.2) (.slice Ao26 t219.length co26)) (fun _ hk => hk.2) (.int .i64 t222)) (fun _ hk => trivial)⟩, ⟨by (with_reducible repeat (first | apply Kd.R_alloc | apply Kd.R_drewN | apply Kd.R_drew)); exact Kd.R_mono (Kd.R_far (p := ⟨gb224, 4, none⟩) (Kd.R_far (p := ⟨gb224, 3, none⟩) (Kd.R_far (p := ⟨gb224, 2, none⟩) (Kd.R_far (p := ⟨gb224, 1, none⟩) (Kd.R_far (p := ⟨gb224, 0, none⟩) (Kd.R_types HO221.out BK224.out (by decide)) (fun _ hk => hk.2) (.int .u32 t216)) (fun _ hk => hk.2) (.int .u32 t217)) (fun _ hk => hk.2) (.int .u32 t218)) (fun _ hk => hk.2) (.slice Ao26 t219.length co26)) (fun _ hk => hk.2) (.int .i64 t222)) (fun _ hk => trivial)⟩, ⟨by (with_reducible repeat (first | refine blk_drewN ?_ _ | refine blk_drew ?_ | refine blk_alloc ?_ _)); refine blk_put (cs := #[.int .u32 t216, .int .u32 t217, .int .u32 t218, .slice Ao26 t219.length co26, .int .i64 0]) ?_ 4 _ rfl; (with_reducible repeat (first | refine blk_drewN ?_ _ | refine blk_drew ?_ | refine blk_alloc ?_ _)); refine blk_put (cs := #[.int .u32 t216, .int .u32 t217, .int .u32 t218, .slice none 0 0, .int .i64 0]) ?_ 3 _ rfl; (with_reducible repeat (first | refine blk_drewN ?_ _ | refine blk_drew ?_ | refine blk_alloc ?_ _)); refine blk_put (cs := #[.int .u32 t216, .int .u32 t217, .int .u32 0, .slice none 0 0, .int .i64 0]) ?_ 2 _ rfl; (with_reducible repeat (first | refine blk_drewN ?_ _ | refine blk_drew ?_ | refine blk_alloc ?_ _)); refine blk_put (cs := #[.int .u32 t216, .int .u32 0, .int .u32 0, .slice none 0 0, .int .i64 0]) ?_ 1 _ rfl; (with_reducible repeat (first | refine blk_drewN ?_ _ | refine blk_drew ?_ | refine blk_alloc ?_ _)); refine blk_put (cs := #[.int .u32 0, .int .u32 0, .int .u32 0, .slice none 0 0, .int .i64 0]) ?_ 0 _ rfl; (with_reducible repeat (first | refine blk_drewN ?_ _ | refine blk_drew ?_ | refine blk_alloc ?_ _)); exact BK224.out⟩, ⟨by repeat (first | (with_reducible first | exact HB.out | apply below_alloc | apply pw_below_drewN | apply below_drew1 | refine below_set ?_ GE224.out) | exact HB.out)⟩⟩
                  · rw [if_neg c29] at H
                    have c29b0 : (t223 == 0) = false := beq_eq_false_iff_ne.mpr c29
                    have c29b1 : (t223 != 0) = true := bne_iff_ne.mpr c29
                    have H' := Aside0.mk H
                    clear H
                    go_wp2
                    go_meet
                    case rel => exact ⟨_, (true), (by first | rfl | (simp; done) | (simp [*]; done)), H', ⟨by have := HJ4.out; first | omega | exact Nat.le_refl _⟩, ⟨by (with_reducible repeat (first | apply Kd.R_alloc | apply Kd.R_drewN | apply Kd.R_drew)); exact Kd.R_mono (Kd.R_far (p := ⟨gb224, 4, none⟩) (Kd.R_far (p := ⟨gb224, 3, none⟩) (Kd.R_far (p := ⟨gb224, 2, none⟩) (Kd.R_far (p := ⟨gb224, 1, none⟩) (Kd.R_far (p := ⟨gb224, 0, none⟩) (Kd.R_types HO210.out BK224.out (by decide)) (fun _ hk => hk.2) (.int .u32 t216)) (fun _ hk => hk.2) (.int .u32 t217)) (fun _ hk => hk.2) (.int .u32 t218)) (fun _ hk => hk.2) (.slice Ao26 t219.length co26)) (fun _ hk => hk.2) (.int .i64 t222)) (fun _ hk => trivial)⟩, ⟨by (with_reducible repeat (first | apply Kd.R_alloc | apply Kd.R_drewN | apply Kd.R_drew)); exact Kd.R_mono (Kd.R_far (p := ⟨gb224, 4, none⟩) (Kd.R_far (p := ⟨gb224, 3, none⟩) (Kd.R_far (p := ⟨gb224, 2, none⟩) (Kd.R_far (p := ⟨gb224, 1, none⟩) (Kd.R_far (p := ⟨gb224, 0, none⟩) (Kd.R_types HO221.out BK224.out (by decide)) (fun _ hk => hk.2) (.int .u32 t216)) (fun _ hk => hk.2) (.int .u32 t217)) (fun _ hk => hk.2) (.int .u32 t218)) (fun _ hk => hk.2) (.slice Ao26 t219.length co26)) (fun _ hk => hk.2) (.int .i64 t222)) (fun _ hk => trivial)⟩, ⟨by (with_reducible repeat (first | refine blk_drewN ?_ _ | refine blk_drew ?_ | refine blk_alloc ?_ _)); refine blk_put (cs := #[.int .u32 t216, .int .u32 t217, .int .u32 t218, .slice Ao26 t219.length co26, .int .i64 0]) ?_ 4 _ rfl; (with_reducible repeat (first | refine blk_drewN ?_ _ | refine blk_drew ?_ | refine blk_alloc ?_ _)); refine blk_put (cs := #[.int .u32 t216, .int .u32 t217, .int .u32 t218, .slice none 0 0, .int .i64 0]) ?_ 3 _ rfl; (with_reducible repeat (first | refine blk_drewN ?_ _ | refine blk_drew ?_ | refine blk_alloc ?_ _)); refine blk_put (cs := #[.int .u32 t216, .int .u32 t217, .int .u32 0, .slice none 0 0, .int .i64 0]) ?_ 2 _ rfl; (with_reducible repeat (first | refine blk_drewN ?_ _ | refine blk_drew ?_ | refine blk_alloc ?_ _)); refine blk_put (cs := #[.int .u32 t216, .int .u32 0, .int .u32 0, .slice none 0 0, .int .i64 0]) ?_ 1 _ rfl; (with_reducible repeat (first | refine blk_drewN ?_ _ | refine blk_drew ?_ | refine blk_alloc ?_ _)); refine blk_put (cs := #[.int .u32 0, .int .u32 0, .int .u32 0, .slice none 0 0, .int .i64 0]) ?_ 0 _ rfl; (with_reducible repeat (first | refine blk_drewN ?_ _ | refine blk_drew ?_ | refine blk_alloc ?_ _)); exact BK224.out⟩, ⟨by repeat (first | (with_reducible first | exact HB.out | apply below_alloc | apply pw_below_drewN | apply below_drew1 | refine below_set ?_ GE224.out) | exact HB.out)⟩⟩
                · rw [if_neg c28] at H
                  have c28b0 : (t213 == 0) = false := beq_eq_false_iff_ne.mpr c28
                  have c28b1 : (t213 != 0) = true := bne_iff_ne.mpr c28
                  have H' := Aside0.mk H
                  clear H
                  go_wp2
                  go_meet
                  case rel => exact ⟨_, (true), (by first | rfl | (simp; done) | (simp [*]; done)), H', ⟨by have := HJ4.out; first | omega | exact Nat.le_refl _⟩, ⟨by (with_reducible repeat (first | apply Kd.R_alloc | apply Kd.R_drewN | apply Kd.R_drew)); exact Kd.R_mono (Kd.R_far (p := ⟨gb224, 4, none⟩) (Kd.R_far (p := ⟨gb224, 3, none⟩) (Kd.R_far (p := ⟨gb224, 2, none⟩) (Kd.R_far (p := ⟨gb224, 1, none⟩) (Kd.R_far (p := ⟨gb224, 0, none⟩) (Kd.R_types HO210.out BK224.out (by decide)) (fun _ hk => hk.2) (.int .u32 t216)) (fun _ hk => hk.2) (.int .u32 t217)) (fun _ hk => hk.2) (.int .u32 t218)) (fun _ hk => hk.2) (.slice Ao26 t219.length co26)) (fun _ hk => hk.2) (.int .i64 t222)) (fun _ hk => trivial)⟩, ⟨by (with_reducible repeat (first | apply Kd.R_alloc | apply Kd.R_drewN | apply Kd.R_drew)); exact Kd.R_mono (Kd.R_far (p := ⟨gb224, 4, none⟩) (Kd.R_far (p := ⟨gb224, 3, none⟩) (Kd.R_far (p := ⟨gb224, 2, none⟩) (Kd.R_far (p := ⟨gb224, 1, none⟩) (Kd.R_far (p := ⟨gb224, 0, none⟩) (Kd.R_types HO221.out BK224.out (by decide)) (fun _ hk => hk.2) (.int .u32 t216)) (fun _ hk => hk.2) (.int .u32 t217)) (fun _ hk => hk.2) (.int .u32 t218)) (fun _ hk => hk.2) (.slice Ao26 t219.length co26)) (fun _ hk => hk.2) (.int .i64 t222)) (fun _ hk => trivial)⟩, ⟨by (with_reducible repeat (first | refine blk_drewN ?_ _ | refine blk_drew ?_ | refine blk_alloc ?_ _)); refine blk_put (cs := #[.int .u32 t216, .int .u32 t217, .int .u32 t218, .slice Ao26 t219.length co26, .int .i64 0]) ?_ 4 _ rfl; (with_reducible repeat (first | refine blk_drewN ?_ _ | refine blk_drew ?_ | refine blk_alloc ?_ _)); refine blk_put (cs := #[.int .u32 t216, .int .u32 t217, .int .u32 t218, .slice none 0 0, .int .i64 0]) ?_ 3 _ rfl; (with_reducible repeat (first | refine blk_drewN ?_ _ | refine blk_drew ?_ | refine blk_alloc ?_ _)); refine blk_put (cs := #[.int .u32 t216, .int .u32 t217, .int .u32 0, .slice none 0 0, .int .i64 0]) ?_ 2 _ rfl; (with_reducible repeat (first | refine blk_drewN ?_ _ | refine blk_drew ?_ | refine blk_alloc ?_ _)); refine blk_put (cs := #[.int .u32 t216, .int .u32 0, .int .u32 0, .slice none 0 0, .int .i64 0]) ?_ 1 _ rfl; (with_reducible repeat (first | refine blk_drewN ?_ _ | refine blk_drew ?_ | refine blk_alloc ?_ _)); refine blk_put (cs := #[.int .u32 0, .int .u32 0, .int .u32 0, .slice none 0 0, .int .i64 0]) ?_ 0 _ rfl; (with_reducible repeat (first | refine blk_drewN ?_ _ | refine blk_drew ?_ | refine blk_alloc ?_ _)); exact BK224.out⟩, ⟨by repeat (first | (with_reducible first | exact HB.out | apply below_alloc | apply pw_below_drewN | apply below_drew1 | refine below_set ?_ GE224.out) | exact HB.out)⟩⟩
              · rw [if_neg c27] at H
                have c27b0 : (t208 == 0) = false := beq_eq_false_iff_ne.mpr c27
                have c27b1 : (t208 != 0) = true := bne_iff_ne.mpr c27
                (first | rw [c27b0] | (simp only [i64_w, i32_w]; rw [c27b0]) | skip)
                have H' := Aside0.mk H
                clear H
                go_wp2
                go_meet
                case rel => exact ⟨_, (true), (by first | rfl | (simp; done) | (simp [*]; done)), H', ⟨by have := HJ4.out; first | omega | exact Nat.le_refl _⟩, ⟨by (with_reducible repeat (first | apply Kd.R_alloc | apply Kd.R_drewN | apply Kd.R_drew)); exact Kd.R_mono (Kd.R_far (p := ⟨gb224, 4, none⟩) (Kd.R_far (p := ⟨gb224, 3, none⟩) (Kd.R_far (p := ⟨gb224, 2, none⟩) (Kd.R_far (p := ⟨gb224, 1, none⟩) (Kd.R_far (p := ⟨gb224, 0, none⟩) (Kd.R_types HO210.out BK224.out (by decide)) (fun _ hk => hk.2) (.int .u32 t216)) (fun _ hk => hk.2) (.int .u32 t217)) (fun _ hk => hk.2) (.int .u32 t218)) (fun _ hk => hk.2) (.slice Ao26 t219.length co26)) (fun _ hk => hk.2) (.int .i64 t222)) (fun _ hk => trivial)⟩, ⟨by (with_reducible repeat (first | apply Kd.R_alloc | apply Kd.R_drewN | apply Kd.R_drew)); exact Kd.R_mono (Kd.R_far (p := ⟨gb224, 4, none⟩) (Kd.R_far (p := ⟨gb224, 3, none⟩) (Kd.R_far (p := ⟨gb224, 2, none⟩) (Kd.R_far (p := ⟨gb224, 1, none⟩) (Kd.R_far (p := ⟨gb224, 0, none⟩) (Kd.R_types HO221.out BK224.out (by decide)) (fun _ hk => hk.2) (.int .u32 t216)) (fun _ hk => hk.2) (.int .u32 t217)) (fun _ hk => hk.2) (.int .u32 t218)) (fun _ hk => hk.2) (.slice Ao26 t219.length co26)) (fun _ hk => hk.2) (.int .i64 t222)) (fun _ hk => trivial)⟩, ⟨by (with_reducible repeat (first | refine blk_drewN ?_ _ | refine blk_drew ?_ | refine blk_alloc ?_ _)); refine blk_put (cs := #[.int .u32 t216, .int .u32 t217, .int .u32 t218, .slice Ao26 t219.length co26, .int .i64 0]) ?_ 4 _ rfl; (with_reducible repeat (first | refine blk_drewN ?_ _ | refine blk_drew ?_ | refine blk_alloc ?_ _)); refine blk_put (cs := #[.int .u32 t216, .int .u32 t217, .int .u32 t218, .slice none 0 0, .int .i64 0]) ?_ 3 _ rfl; (with_reducible repeat (first | refine blk_drewN ?_ _ | refine blk_drew ?_ | refine blk_alloc ?_ _)); refine blk_put (cs := #[.int .u32 t216, .int .u32 t217, .int .u32 0, .slice none 0 0, .int .i64 0]) ?_ 2 _ rfl; (with_reducible repeat (first | refine blk_drewN ?_ _ | refine blk_drew ?_ | refine blk_alloc ?_ _)); refine blk_put (cs := #[.int .u32 t216, .int .u32 0, .int .u32 0, .slice none 0 0, .int .i64 0]) ?_ 1 _ rfl; (with_reducible repeat (first | refine blk_drewN ?_ _ | refine blk_drew ?_ | refine blk_alloc ?_ _)); refine blk_put (cs := #[.int .u32 0, .int .u32 0, .int .u32 0, .slice none 0 0, .int .i64 0]) ?_ 0 _ rfl; (with_reducible repeat (first | refine blk_drewN ?_ _ | refine blk_drew ?_ | refine blk_alloc ?_ _)); exact BK224.out⟩, ⟨by repeat (first | (with_reducible first | exact HB.out | apply below_alloc | apply pw_below_drewN | apply below_drew1 | refine below_set ?_ GE224.out) | exact HB.out)⟩⟩
            case rest =>
              clear HC19
              try clear c1
              try clear c2
              try clear p2
              try clear c3
              try clear q3
              try clear c4
              try clear c5
              try clear c7
              try clear c7b0
              try clear c7b1
              try clear c8
              try clear c8b0
              try clear c8b1
              try clear c10
              try clear c10b0
              try clear c10b1
              try clear c11
              try clear c11b0
              try clear c12
              try clear c12b0
              try clear c13
              try clear c15
              try clear c15b0
              try clear c15b1
              try clear c16
              try clear c16b0
              try clear c16b1
              try clear c27
              try clear c27b0
              try clear c27b1
              try clear c28
              try clear c28b0
              try clear c28b1
              try clear c29
              try clear c29b0
              try clear c29b1
              try clear c30
              try clear c30b0
              try clear c30b1
              try clear c30b2
              try clear c31
              try clear c31b0
              try clear c31b1
              try clear c32
              try clear c32b0
              try clear c33
              try clear c33b0
              try clear c33b1
              try clear q37
              try clear c39
              try clear hcz25_0
              try clear hcz25_1
              try clear hcz25_2
              try clear hcz25_3
              try clear hcz25_4
              try clear hfz25_0
              try clear hfz25_1
              try clear hfz25_2
              try clear hfz25_3
              try clear hfz25_4
              try clear p2
              try clear q37
              obtain ⟨kq, x98_18, rfl, HA, HJ18, HO_8, HO_225003, BK224, HB⟩ := hcut
              cases kq with
              | zero => exact absurd HA.out (by simp [bitloftlaw21_DecoderParts.j1])
              | succ kj18 =>
                have H := HA.out
                clear HA
                simp only [bitloftlaw21_DecoderParts.j1] at H
                by_cases c42 : x98_18 = true
                · subst c42
                  have H1 : (none) = some r := by rw [if_pos rfl] at H; exact H
                  clear H
                  have H := H1
                  clear H1
                  exact absurd H (by simp)
                · replace c42 := Bool.eq_false_iff.mpr c42
                  subst c42
                  have H1 : (bitloftlaw21_DecoderParts.l0 kj18 l1 t205 t207 0 t216 t217 t218 t219 t222) = some r := by rw [if_neg (show ¬ (false = true) by decide)] at H; exact H
                  clear H
                  have H := H1
                  clear H1
                  have H' := Aside0.mk H
                  clear H
                  go_wp2
                  go_loopg [14] kj18 (fun kq v14 w' => ∃ (x14_3 : Int) (x225000_3 : Int) (x225001_3 : Int) (x225002_3 : Int) (x225003_3 : List Int) (x225004_3 : Int) (u225003 : Value), v14 = .int .i64 x14_3 ∧ Aside0 (bitloftlaw21_DecoderParts.l0 kq l1 t205 t207 x14_3 x225000_3 x225001_3 x225002_3 x225003_3 x225004_3 = some r) ∧ Aside0 (kq ≤ kj18) ∧ Aside0 (Kd.R Kd.bool 4 w' w.heap.size (fun _ => True) v209 t207) ∧ Aside0 (Kd.R (Kd.int .u8) 5 w' w.heap.size (fun _ => True) u225003 x225003_3) ∧ Aside0 (w'.heap[gb224]? = some (.cells #[.int .u32 x225000_3, .int .u32 x225001_3, .int .u32 x225002_3, u225003, .int .i64 x225004_3] 72 (0, 0))) ∧ Aside0 (Below w.heap.size w w'))
                  case atStart => exact ⟨(0), (t216), (t217), (t218), (t219), (t222), (.slice Ao26 t219.length co26), (by first | rfl | (simp; done) | (simp [*]; done)), H', ⟨Nat.le_refl _⟩, ⟨by (with_reducible repeat (first | apply Kd.R_alloc | apply Kd.R_drewN | apply Kd.R_drew)); exact HO_8.out⟩, ⟨by (with_reducible repeat (first | apply Kd.R_alloc | apply Kd.R_drewN | apply Kd.R_drew)); exact HO_225003.out⟩, ⟨by (with_reducible repeat (first | refine blk_drewN ?_ _ | refine blk_drew ?_ | refine blk_alloc ?_ _)); exact BK224.out⟩, ⟨by repeat (first | (with_reducible first | exact HB.out | apply below_alloc | apply pw_below_drewN | apply below_drew1 | refine below_set ?_ GE224.out) | exact HB.out)⟩⟩
                  case round =>
                    clear H'
                    try clear c1
                    try clear c2
                    try clear p2
                    try clear c3
                    try clear q3
                    try clear c4
                    try clear c5
                    try clear c7
                    try clear c7b0
                    try clear c7b1
                    try clear c8
                    try clear c8b0
                    try clear c8b1
                    try clear c10
                    try clear c10b0
                    try clear c10b1
                    try clear c11
                    try clear c11b0
                    try clear c12
                    try clear c12b0
                    try clear c13
                    try clear c15
                    try clear c15b0
                    try clear c15b1
                    try clear c16
                    try clear c16b0
                    try clear c16b1
                    try clear c27
                    try clear c27b0
                    try clear c27b1
                    try clear c28
                    try clear c28b0
                    try clear c28b1
                    try clear c29
                    try clear c29b0
                    try clear c29b1
                    try clear c30
                    try clear c30b0
                    try clear c30b1
                    try clear c30b2
                    try clear c31
                    try clear c31b0
                    try clear c31b1
                    try clear c32
                    try clear c32b0
                    try clear c33
                    try clear c33b0
                    try clear c33b1
                    try clear q37
                    try clear c39
                    try clear c42
                    try clear hcz25_0
                    try clear hcz25_1
                    try clear hcz25_2
                    try clear hcz25_3
                    try clear hcz25_4
                    try clear hfz25_0
                    try clear hfz25_1
                    try clear hfz25_2
                    try clear hfz25_3
                    try clear hfz25_4
                    try clear p2
                    try clear q3
                    try clear q37
                    obtain ⟨x14_3, x225000_3, x225001_3, x225002_3, x225003_3, x225004_3, u225003, rfl, HA, HK3, HO_8, HO_225003, BK224, HB⟩ := hrel
                    cases gk with
                    | zero => exact absurd HA.out (by simp [bitloftlaw21_DecoderParts.l0])
                    | succ k3 =>
                      have H := HA.out
                      clear HA
                      simp only [bitloftlaw21_DecoderParts.l0] at H
                      by_cases c43 : x14_3 < (l1.length : Int)
                      · rw [if_pos c43] at H
                        have c43b0 : decide (x14_3 < (l1.length : Int)) = true := decide_eq_true c43
                        clear c43
                        by_cases c44 : 0 ≤ x14_3
                        · rw [if_pos c44] at H
                          have c44b0 : decide (0 ≤ x14_3) = true := decide_eq_true c44
                          clear c44
                          replace H := Option.bind_eq_some_iff.mp H
                          obtain ⟨⟨t231, t232, t233, t234, t237, t238, t239⟩, A450, H⟩ := H
                          replace H : (if t239 = 0 then (if x14_3 < (t207.length : Int) then (if (t238 != (rdOf false t207 x14_3)) = true then (none) else (bitloftlaw21_DecoderParts.l0 k3 l1 t205 t207 (wrap64 (x14_3 + 1)) t231 t232 t233 t234 t237)) else (none)) else (none)) = some r := H
                          have A45 := Aside0.mk A450
                          clear A450
                          by_cases c46 : t239 = 0
                          · rw [if_pos c46] at H
                            have c46b0 : (t239 == 0) = true := beq_iff_eq.mpr c46
                            have c46b1 : (t239 != 0) = false := bne_eq_false_iff_eq.mpr c46
                            clear c46
                            by_cases c47 : x14_3 < (t207.length : Int)
                            · rw [if_pos c47] at H
                              have c47b0 : decide (x14_3 < (t207.length : Int)) = true := decide_eq_true c47
                              clear c47
                              by_cases c48 : (t238 != (rdOf false t207 x14_3)) = true
                              · rw [if_pos c48] at H
                                exact absurd H (by simp)
                              · rw [if_neg c48] at H
                                have c48b0 : (t238 != (rdOf false t207 x14_3)) = false := by simpa using c48
                                (try (have c48b1 : decide (t238 = (rdOf false t207 x14_3)) = true := by simpa using c48))
                                (try (have c48b2 : (t238 == (rdOf false t207 x14_3)) = true := by simpa using c48))
                                clear c48
                                have H' := Aside0.mk H
                                clear H
                                obtain ⟨Ao49, co49, eo49⟩ := Kd.R_slice HO_225003.out
                                subst eo49
                                try go_wp2
                                have n0_ := Aside0.mk (Kd.R_drew HO_8.out)
                                have n1_ := Aside0.mk (Kd.R_drew HO_225003.out)
                                have n2_ := Aside0.mk (blk_drew BK224.out)
                                have n3_ := Aside0.mk (below_drew1 HB.out)
                                clear HO_8
                                clear HO_225003
                                clear BK224
                                clear HB
                                have HO_8 := n0_
                                have HO_225003 := n1_
                                have BK224 := n2_
                                have HB := n3_
                                clear n0_ n1_ n2_ n3_
                                have p230 : 0 ≤ (x14_3 : Int) := of_decide_eq_true (by first | (with_reducible assumption) | assumption)
                                have q230 : x14_3 < (l1.length : Int) := of_decide_eq_true (by first | (with_reducible assumption) | assumption)
                                obtain ⟨ad230, e230, hx230_0⟩ := Kd.at_int HR1.out x14_3 p230 q230
                                have hw230_0 := hx230_0
                                cases e230
                                replace hx230_0 := (HB.out.cell (World.block_lt_of_cell? w _ hx230_0)).trans hx230_0
                                replace p230 := eq_true p230
                                replace q230 := eq_true q230
                                refine start_ (n := 14) (S := fun w' => w'.cell? ⟨gb224, 0, none⟩ = some (.int .u32 x225000_3) ∧ w'.cell? ⟨gb224, 1, none⟩ = some (.int .u32 x225001_3) ∧ w'.cell? ⟨gb224, 2, none⟩ = some (.int .u32 x225002_3) ∧ w'.cell? ⟨gb224, 3, none⟩ = some (.slice Ao49 x225003_3.length co49) ∧ w'.cell? ⟨gb224, 4, none⟩ = some (.int .i64 x225004_3) ∧ w'.cell? (ad230.add (x14_3).toNat) = some (.int .i64 (rd l1 x14_3))) (ds := []) #[false, false, false, false, false, false, false, false, false, false, false, false, false, false] (by kernel_rfl) rfl rfl ⟨(blk_cell BK224.out 0).trans rfl, (blk_cell BK224.out 1).trans rfl, (blk_cell BK224.out 2).trans rfl, (blk_cell BK224.out 3).trans rfl, (blk_cell BK224.out 4).trans rfl, ((HB.out.cell (World.block_lt_of_cell? w _ hw230_0)).trans hw230_0)⟩ (fun hHeld => ?_); refine with_tabW bitloftlaw21_DecoderParts.tab12 bitloftlaw21_DecoderParts.bits12 (fun HT_ HW_ => ?_)
                                generalize wr.drew = w50 at HO_8 HO_225003 BK224 HB hx230_0 hHeld ⊢
                                refine pure_ (i := 1) (N := some 107) (v := ?_) (a' := ?_) #[false, true, false, false, false, false, false, false, false, false, false, false, false, false] rfl rfl (any_of HT_.out (by kernel_rfl)) (fun _ _ _ h => h) (Or.inl ⟨by rfl, ?_⟩) ?_ ?_
                                rotate_left
                                · intro w'
                                  go_simp
                                  with_reducible rfl
                                rotate_left
                                · simp only [Act.put, List.setIfInBounds_toArray, List.set_cons_zero, List.set_cons_succ, i64_w, i32_w]
                                  rfl
                                refine pure_ (i := 2) (N := some 108) (v := ?_) (a' := ?_) #[false, true, true, false, false, false, false, false, false, false, false, false, false, false] rfl rfl (any_of HT_.out (by kernel_rfl)) (fun _ _ _ h => h) (Or.inl ⟨by rfl, ?_⟩) ?_ ?_
                                rotate_left
                                · intro w'
                                  go_simp
                                  with_reducible rfl
                                rotate_left
                                · simp only [Act.put, List.setIfInBounds_toArray, List.set_cons_zero, List.set_cons_succ, i64_w, i32_w]
                                  rfl
                                refine pure_ (i := 3) (N := some 109) (v := ?_) (a' := ?_) #[false, true, true, true, false, false, false, false, false, false, false, false, false, false] rfl rfl (any_of HT_.out (by kernel_rfl)) (fun _ _ _ h => h) (Or.inl ⟨by rfl, ?_⟩) ?_ ?_
                                rotate_left
                                · intro w'
                                  go_simp
                                  with_reducible rfl
                                rotate_left
                                · simp only [Act.put, List.setIfInBounds_toArray, List.set_cons_zero, List.set_cons_succ, i64_w, i32_w]
                                  rfl
                                refine take_ (i := 0) (N := some 106) (v := ?_) (a' := ?_) #[true, true, true, true, false, false, false, false, false, false, false, false, false, false] rfl rfl (take_ofW HT_.out HW_.out (by kernel_rfl)) (fun _ _ _ h => h) (Or.inl ⟨by rfl, ?_⟩) hHeld ?_ ?_
                                rotate_left
                                · rintro w' ⟨s0, s1, s2, s3, s4, s5⟩
                                  go_simp
                                  with_reducible rfl
                                rotate_left
                                · simp only [Act.put, List.setIfInBounds_toArray, List.set_cons_zero, List.set_cons_succ, i64_w, i32_w]
                                  rfl
                                refine take_ (i := 4) (N := some 110) (v := ?_) (a' := ?_) #[true, true, true, true, true, false, false, false, false, false, false, false, false, false] rfl rfl (take_ofW HT_.out HW_.out (by kernel_rfl)) (fun _ _ _ h => h) (Or.inl ⟨by rfl, ?_⟩) hHeld ?_ ?_
                                rotate_left
                                · rintro w' ⟨s0, s1, s2, s3, s4, s5⟩
                                  go_simp
                                  with_reducible rfl
                                rotate_left
                                · simp only [Act.put, List.setIfInBounds_toArray, List.set_cons_zero, List.set_cons_succ, i64_w, i32_w]
                                  rfl
                                refine join_ (σ := Value × Nat) 3 #[true, true, true, true, true, true, true, true, true, true, true, false, false, false] (fun s_ => [(111, .tuple #[.agg #[.int .u32 t231, .int .u32 t232, .int .u32 t233, s_.1, .int .i64 t237], .bool t238, .int .i64 t239]), (15, .pointer (some ⟨s_.2, 0, none⟩)), (105, .tuple #[.agg #[.int .u32 t231, .int .u32 t232, .int .u32 t233, s_.1, .int .i64 t237], .bool t238, .int .i64 t239]), (112, .agg #[.int .u32 t231, .int .u32 t232, .int .u32 t233, s_.1, .int .i64 t237]), (113, .bool t238), (114, .int .i64 t239)]) (fun s_ w' => (w'.cell? ⟨gb224, 0, none⟩ = some (.int .u32 x225000_3) ∧ w'.cell? ⟨gb224, 1, none⟩ = some (.int .u32 x225001_3) ∧ w'.cell? ⟨gb224, 2, none⟩ = some (.int .u32 x225002_3) ∧ w'.cell? ⟨gb224, 3, none⟩ = some (.slice Ao49 x225003_3.length co49) ∧ w'.cell? ⟨gb224, 4, none⟩ = some (.int .i64 x225004_3) ∧ w'.cell? (ad230.add (x14_3).toNat) = some (.int .i64 (rd l1 x14_3))) ∧ (Kd.R (Kd.int .u8) 5 w' w.heap.size (fun k_ => some k_ ≠ (.slice Ao49 x225003_3.length co49 : Value).ownBlock) s_.1 t234) ∧ (Kd.R (Kd.int .u8) 5 w' w.heap.size (fun k_ => some k_ ≠ (s_.1 : Value).ownBlock) (.slice Ao49 x225003_3.length co49) x225003_3) ∧ (Kd.R Kd.bool 4 w' w.heap.size (fun _ => True) v209 t207) ∧ (w'.heap[gb224]? = some (.cells #[.int .u32 x225000_3, .int .u32 x225001_3, .int .u32 x225002_3, .slice Ao49 x225003_3.length co49, .int .i64 x225004_3] 72 (0, 0))) ∧ (w'.heap[s_.2]? = some (.cells #[.int .u32 0, .int .u32 0, .int .u32 0, .slice none 0 0, .int .i64 0] 72 (0, 0))) ∧ (w.heap.size ≤ s_.2) ∧ (w.heap.size ≤ s_.2) ∧ (gb224 ≠ s_.2) ∧ (s_.2 ≠ gb224) ∧ (Below w.heap.size w w')) ?_ ?_
                                rotate_left
                                · intro hCont
                                  refine two_ (i := 5) (j := 10) (Ni := some 111) (Nj := some 15) #[true, true, true, true, true, true, false, false, false, false, false, false, false, false] #[true, true, true, true, true, false, false, false, false, false, true, false, false, false] rfl rfl rfl rfl (two_of HT_.out (by kernel_rfl)) (by decide) (by decide) (fun K hK => ?_) (fun K hK => ?_)
                                  · skip
                                    refine goes_ Try.func50 (by kernel_rfl) rfl #[.agg #[.int .u32 x225000_3, .int .u32 x225001_3, .int .u32 x225002_3, .slice Ao49 x225003_3.length co49, .int .i64 x225004_3], .int .i64 (rd l1 x14_3)] (by rfl) rfl rfl (by (try simp only [List.map_toArray, List.map_cons, List.map_nil]); first | done | rfl | (simp only [List.length_drop, List.length_take]; rfl)) ?_
                                    with_reducible refine (decoder_Get.calls k3 x225000_3 x225001_3 x225002_3 _ _ x225003_3 x225004_3 (rd l1 x14_3) t231 t232 t233 t234 t237 t238 t239 _ ?side1 ?side2 A45.out).mono ?_
                                    (case side1 => repeat (first | exact (Kd.R_reads' HO_225003.out).2.2 | (with_reducible refine Kd.C_alloc ?_ _) | (with_reducible refine Kd.C_drewN ?_ _) | (with_reducible refine Kd.C_drew ?_)))
                                    (case side2 => exact (Kd.R_reads' HO_225003.out).2.1)
                                    rintro e w51 ⟨v235, rfl, ho0, hb⟩
                                    refine ⟨_, rfl, ?_⟩
                                    have n0_ := Aside0.mk (Kd.R_below (by (with_reducible repeat (first | apply Kd.R_alloc | apply Kd.R_drewN | apply Kd.R_drew)); exact HO_8.out) hb)
                                    have n1_ := Aside0.mk (Kd.R_elder' (by (with_reducible repeat (first | apply Kd.R_alloc | apply Kd.R_drewN | apply Kd.R_drew)); exact HO_225003.out) (Kd.R_base ho0) hb)
                                    have n2_ := Aside0.mk (Kd.R_lower (Kd.R_new' ho0 (Kd.R_lt (by (with_reducible repeat (first | apply Kd.R_alloc | apply Kd.R_drewN | apply Kd.R_drew)); exact HO_225003.out))) (below_size (by repeat (first | (with_reducible first | exact HB.out | apply below_alloc | apply pw_below_drewN | apply below_drew1 | refine below_set ?_ GE224.out) | exact HB.out))))
                                    have n3_ := Aside0.mk (blk_below (g := gb224) (o := .cells #[.int .u32 x225000_3, .int .u32 x225001_3, .int .u32 x225002_3, .slice Ao49 x225003_3.length co49, .int .i64 x225004_3] 72 (0, 0)) (by (with_reducible repeat (first | refine blk_drewN ?_ _ | refine blk_drew ?_ | refine blk_alloc ?_ _)); exact BK224.out) hb)
                                    have n4_ := Aside0.mk (below_step (by repeat (first | (with_reducible first | exact HB.out | apply below_alloc | apply pw_below_drewN | apply below_drew1 | refine below_set ?_ GE224.out) | exact HB.out)) hb)
                                    clear HO_8
                                    clear HO_225003
                                    clear BK224
                                    clear HB
                                    have HO_8 := n0_
                                    have HO_225003 := n1_
                                    have HO236 := n2_
                                    have BK224 := n3_
                                    have HB := n4_
                                    clear n0_ n1_ n2_ n3_ n4_
                                    (try clear hb)
                                    (try clear hb2)
                                    (try clear hk)
                                    (try clear hi)
                                    (try clear ho0)
                                    refine hK.out _ _ ⟨(blk_cell BK224.out 0).trans rfl, (blk_cell BK224.out 1).trans rfl, (blk_cell BK224.out 2).trans rfl, (blk_cell BK224.out 3).trans rfl, (blk_cell BK224.out 4).trans rfl, ((HB.out.cell (World.block_lt_of_cell? w _ hw230_0)).trans hw230_0)⟩ (fun hHeld => ?_)
                                    clear hK K
                                    refine norm_ (a' := ?_) ?_ ?_
                                    rotate_left
                                    · show Act.put _ (some 111) _ = _
                                      simp only [Act.put, List.setIfInBounds_toArray, List.set_cons_zero, List.set_cons_succ, i64_w, i32_w]
                                      rfl
                                    refine pure_ (i := 6) (N := some 105) (v := ?_) (a' := ?_) #[true, true, true, true, true, true, true, false, false, false, false, false, false, false] rfl rfl (any_of HT_.out (by kernel_rfl)) (fun _ _ _ h => h) (Or.inl ⟨by rfl, ?_⟩) ?_ ?_
                                    rotate_left
                                    · intro w'
                                      go_simp
                                      with_reducible rfl
                                    rotate_left
                                    · simp only [Act.put, List.setIfInBounds_toArray, List.set_cons_zero, List.set_cons_succ, i64_w, i32_w]
                                      rfl
                                    refine pure_ (i := 7) (N := some 112) (v := ?_) (a' := ?_) #[true, true, true, true, true, true, true, true, false, false, false, false, false, false] rfl rfl (any_of HT_.out (by kernel_rfl)) (fun _ _ _ h => h) (Or.inl ⟨by rfl, ?_⟩) ?_ ?_
                                    rotate_left
                                    · intro w'
                                      go_simp
                                      with_reducible rfl
                                    rotate_left
                                    · simp only [Act.put, List.setIfInBounds_toArray, List.set_cons_zero, List.set_cons_succ, i64_w, i32_w]
                                      rfl
                                    refine pure_ (i := 8) (N := some 113) (v := ?_) (a' := ?_) #[true, true, true, true, true, true, true, true, true, false, false, false, false, false] rfl rfl (any_of HT_.out (by kernel_rfl)) (fun _ _ _ h => h) (Or.inl ⟨by rfl, ?_⟩) ?_ ?_
                                    rotate_left
                                    · intro w'
                                      go_simp
                                      with_reducible rfl
                                    rotate_left
                                    · simp only [Act.put, List.setIfInBounds_toArray, List.set_cons_zero, List.set_cons_succ, i64_w, i32_w]
                                      rfl
                                    refine pure_ (i := 9) (N := some 114) (v := ?_) (a' := ?_) #[true, true, true, true, true, true, true, true, true, true, false, false, false, false] rfl rfl (any_of HT_.out (by kernel_rfl)) (fun _ _ _ h => h) (Or.inl ⟨by rfl, ?_⟩) ?_ ?_
                                    rotate_left
                                    · intro w'
                                      go_simp
                                      with_reducible rfl
                                    rotate_left
                                    · simp only [Act.put, List.setIfInBounds_toArray, List.set_cons_zero, List.set_cons_succ, i64_w, i32_w]
                                      rfl
                                    refine one_ (i := 10) (N := some 15) #[true, true, true, true, true, true, true, true, true, true, true, false, false, false] rfl rfl (one_of HT_.out (by kernel_rfl)) (by decide) (fun K hK => ?_)
                                    refine box_step ?hg (N := 15) ?hd (cs := #[.int .u32 0, .int .u32 0, .int .u32 0, .slice none 0 0, .int .i64 0]) (t := 72) ?hr ?_; (case hd => rfl); (case hg => rfl); (case hr => first | (go_simp; done) | (go_simp; rfl))
                                    intro gb240 hg w52 hbox hb
                                    have n0_ := Aside0.mk (Kd.R_below (by (with_reducible repeat (first | apply Kd.R_alloc | apply Kd.R_drewN | apply Kd.R_drew)); exact HO_8.out) hb)
                                    have n1_ := Aside0.mk (Kd.R_below (by (with_reducible repeat (first | apply Kd.R_alloc | apply Kd.R_drewN | apply Kd.R_drew)); exact HO_225003.out) hb)
                                    have n2_ := Aside0.mk (Kd.R_below (by (with_reducible repeat (first | apply Kd.R_alloc | apply Kd.R_drewN | apply Kd.R_drew)); exact HO236.out) hb)
                                    have n3_ := Aside0.mk (blk_below (g := gb224) (o := .cells #[.int .u32 x225000_3, .int .u32 x225001_3, .int .u32 x225002_3, .slice Ao49 x225003_3.length co49, .int .i64 x225004_3] 72 (0, 0)) (by (with_reducible repeat (first | refine blk_drewN ?_ _ | refine blk_drew ?_ | refine blk_alloc ?_ _)); exact BK224.out) hb)
                                    have n4_ := Aside0.mk (below_step (by repeat (first | (with_reducible first | exact HB.out | apply below_alloc | apply pw_below_drewN | apply below_drew1 | refine below_set ?_ GE224.out) | exact HB.out)) hb)
                                    have n5_ := Aside0.mk (hbox)
                                    have n6_ := Aside0.mk ((by rw [hg]; exact (below_size (by repeat (first | (with_reducible first | exact HB.out | apply below_alloc | apply pw_below_drewN | apply below_drew1 | refine below_set ?_ GE224.out) | exact HB.out))) : w.heap.size ≤ gb240))
                                    have n7_ := Aside0.mk ((by rw [hg]; exact (below_size (by repeat (first | (with_reducible first | exact HB.out | apply below_alloc | apply pw_below_drewN | apply below_drew1 | refine below_set ?_ GE224.out) | exact HB.out))) : w.heap.size ≤ gb240))
                                    have n8_ := Aside0.mk ((by rw [hg]; exact Nat.ne_of_lt (blk_lt (g := gb224) (o := .cells #[.int .u32 x225000_3, .int .u32 x225001_3, .int .u32 x225002_3, .slice Ao49 x225003_3.length co49, .int .i64 x225004_3] 72 (0, 0)) (by (with_reducible repeat (first | refine blk_drewN ?_ _ | refine blk_drew ?_ | refine blk_alloc ?_ _)); exact BK224.out)) : gb224 ≠ gb240))
                                    have n9_ := Aside0.mk ((by rw [hg]; exact Nat.ne_of_gt (blk_lt (g := gb224) (o := .cells #[.int .u32 x225000_3, .int .u32 x225001_3, .int .u32 x225002_3, .slice Ao49 x225003_3.length co49, .int .i64 x225004_3] 72 (0, 0)) (by (with_reducible repeat (first | refine blk_drewN ?_ _ | refine blk_drew ?_ | refine blk_alloc ?_ _)); exact BK224.out)) : gb240 ≠ gb224))
                                    clear HO_8
                                    clear HO_225003
                                    clear HO236
                                    clear BK224
                                    clear HB
                                    have HO_8 := n0_
                                    have HO_225003 := n1_
                                    have HO236 := n2_
                                    have BK224 := n3_
                                    have HB := n4_
                                    have BK240 := n5_
                                    have GW240 := n6_
                                    have GE240 := n7_
                                    have NB224_240 := n8_
                                    have NB240_224 := n9_
                                    clear n0_ n1_ n2_ n3_ n4_ n5_ n6_ n7_ n8_ n9_
                                    clear hb hbox hg
                                    refine hK.out _ _ ⟨(blk_cell BK224.out 0).trans rfl, (blk_cell BK224.out 1).trans rfl, (blk_cell BK224.out 2).trans rfl, (blk_cell BK224.out 3).trans rfl, (blk_cell BK224.out 4).trans rfl, ((HB.out.cell (World.block_lt_of_cell? w _ hw230_0)).trans hw230_0)⟩ (fun hHeld => ?_)
                                    clear hK K
                                    refine norm_ (a' := ?_) ?_ ?_
                                    rotate_left
                                    · show Act.put _ (some 15) _ = _
                                      simp only [Act.put, List.setIfInBounds_toArray, List.set_cons_zero, List.set_cons_succ, i64_w, i32_w]
                                      rfl
                                    exact norm_ (by simp only [putAll, Act.put, List.setIfInBounds_toArray, List.set_cons_zero, List.set_cons_succ]) (hCont (v235, gb240) _ ⟨hHeld, (by (with_reducible repeat (first | apply Kd.R_alloc | apply Kd.R_drewN | apply Kd.R_drew)); exact Kd.R_mono HO236.out (fun _ hk => by first | exact hk.2 | exact hk | exact hk.1 | exact hk.2 | exact hk.1.1 | exact hk.1.2)), (by (with_reducible repeat (first | apply Kd.R_alloc | apply Kd.R_drewN | apply Kd.R_drew)); exact Kd.R_mono HO_225003.out (fun _ hk => hk.2)), (by (with_reducible repeat (first | apply Kd.R_alloc | apply Kd.R_drewN | apply Kd.R_drew)); exact HO_8.out), (by (with_reducible repeat (first | refine blk_drewN ?_ _ | refine blk_drew ?_ | refine blk_alloc ?_ _)); exact BK224.out), (by (with_reducible repeat (first | refine blk_drewN ?_ _ | refine blk_drew ?_ | refine blk_alloc ?_ _)); exact BK240.out), GW240.out, GE240.out, NB224_240.out, NB240_224.out, (by repeat (first | (with_reducible first | exact HB.out | apply below_alloc | apply pw_below_drewN | apply below_drew1 | refine below_set ?_ GE224.out | refine below_set ?_ GE240.out) | exact HB.out))⟩)
                                  · skip
                                    refine box_step ?hg (N := 15) ?hd (cs := #[.int .u32 0, .int .u32 0, .int .u32 0, .slice none 0 0, .int .i64 0]) (t := 72) ?hr ?_; (case hd => rfl); (case hg => rfl); (case hr => first | (go_simp; done) | (go_simp; rfl))
                                    intro gb240 hg w51 hbox hb
                                    have n0_ := Aside0.mk (Kd.R_below (by (with_reducible repeat (first | apply Kd.R_alloc | apply Kd.R_drewN | apply Kd.R_drew)); exact HO_8.out) hb)
                                    have n1_ := Aside0.mk (Kd.R_below (by (with_reducible repeat (first | apply Kd.R_alloc | apply Kd.R_drewN | apply Kd.R_drew)); exact HO_225003.out) hb)
                                    have n2_ := Aside0.mk (blk_below (g := gb224) (o := .cells #[.int .u32 x225000_3, .int .u32 x225001_3, .int .u32 x225002_3, .slice Ao49 x225003_3.length co49, .int .i64 x225004_3] 72 (0, 0)) (by (with_reducible repeat (first | refine blk_drewN ?_ _ | refine blk_drew ?_ | refine blk_alloc ?_ _)); exact BK224.out) hb)
                                    have n3_ := Aside0.mk (below_step (by repeat (first | (with_reducible first | exact HB.out | apply below_alloc | apply pw_below_drewN | apply below_drew1 | refine below_set ?_ GE224.out) | exact HB.out)) hb)
                                    have n4_ := Aside0.mk (hbox)
                                    have n5_ := Aside0.mk ((by rw [hg]; exact (below_size (by repeat (first | (with_reducible first | exact HB.out | apply below_alloc | apply pw_below_drewN | apply below_drew1 | refine below_set ?_ GE224.out) | exact HB.out))) : w.heap.size ≤ gb240))
                                    have n6_ := Aside0.mk ((by rw [hg]; exact (below_size (by repeat (first | (with_reducible first | exact HB.out | apply below_alloc | apply pw_below_drewN | apply below_drew1 | refine below_set ?_ GE224.out) | exact HB.out))) : w.heap.size ≤ gb240))
                                    have n7_ := Aside0.mk ((by rw [hg]; exact Nat.ne_of_lt (blk_lt (g := gb224) (o := .cells #[.int .u32 x225000_3, .int .u32 x225001_3, .int .u32 x225002_3, .slice Ao49 x225003_3.length co49, .int .i64 x225004_3] 72 (0, 0)) (by (with_reducible repeat (first | refine blk_drewN ?_ _ | refine blk_drew ?_ | refine blk_alloc ?_ _)); exact BK224.out)) : gb224 ≠ gb240))
                                    have n8_ := Aside0.mk ((by rw [hg]; exact Nat.ne_of_gt (blk_lt (g := gb224) (o := .cells #[.int .u32 x225000_3, .int .u32 x225001_3, .int .u32 x225002_3, .slice Ao49 x225003_3.length co49, .int .i64 x225004_3] 72 (0, 0)) (by (with_reducible repeat (first | refine blk_drewN ?_ _ | refine blk_drew ?_ | refine blk_alloc ?_ _)); exact BK224.out)) : gb240 ≠ gb224))
                                    clear HO_8
                                    clear HO_225003
                                    clear BK224
                                    clear HB
                                    have HO_8 := n0_
                                    have HO_225003 := n1_
                                    have BK224 := n2_
                                    have HB := n3_
                                    have BK240 := n4_
                                    have GW240 := n5_
                                    have GE240 := n6_
                                    have NB224_240 := n7_
                                    have NB240_224 := n8_
                                    clear n0_ n1_ n2_ n3_ n4_ n5_ n6_ n7_ n8_
                                    clear hb hbox hg
                                    refine hK.out _ _ ⟨(blk_cell BK224.out 0).trans rfl, (blk_cell BK224.out 1).trans rfl, (blk_cell BK224.out 2).trans rfl, (blk_cell BK224.out 3).trans rfl, (blk_cell BK224.out 4).trans rfl, ((HB.out.cell (World.block_lt_of_cell? w _ hw230_0)).trans hw230_0)⟩ (fun hHeld => ?_)
                                    clear hK K
                                    refine norm_ (a' := ?_) ?_ ?_
                                    rotate_left
                                    · show Act.put _ (some 15) _ = _
                                      simp only [Act.put, List.setIfInBounds_toArray, List.set_cons_zero, List.set_cons_succ, i64_w, i32_w]
                                      rfl
                                    refine one_ (i := 5) (N := some 111) #[true, true, true, true, true, true, false, false, false, false, true, false, false, false] rfl rfl (one_of HT_.out (by kernel_rfl)) (by decide) (fun K hK => ?_)
                                    refine goes_ Try.func50 (by kernel_rfl) rfl #[.agg #[.int .u32 x225000_3, .int .u32 x225001_3, .int .u32 x225002_3, .slice Ao49 x225003_3.length co49, .int .i64 x225004_3], .int .i64 (rd l1 x14_3)] (by rfl) rfl rfl (by (try simp only [List.map_toArray, List.map_cons, List.map_nil]); first | done | rfl | (simp only [List.length_drop, List.length_take]; rfl)) ?_
                                    with_reducible refine (decoder_Get.calls k3 x225000_3 x225001_3 x225002_3 _ _ x225003_3 x225004_3 (rd l1 x14_3) t231 t232 t233 t234 t237 t238 t239 _ ?side1 ?side2 A45.out).mono ?_
                                    (case side1 => repeat (first | exact (Kd.R_reads' HO_225003.out).2.2 | (with_reducible refine Kd.C_alloc ?_ _) | (with_reducible refine Kd.C_drewN ?_ _) | (with_reducible refine Kd.C_drew ?_)))
                                    (case side2 => exact (Kd.R_reads' HO_225003.out).2.1)
                                    rintro e w52 ⟨v235, rfl, ho0, hb⟩
                                    refine ⟨_, rfl, ?_⟩
                                    have n0_ := Aside0.mk (Kd.R_below (by (with_reducible repeat (first | apply Kd.R_alloc | apply Kd.R_drewN | apply Kd.R_drew)); exact HO_8.out) hb)
                                    have n1_ := Aside0.mk (Kd.R_elder' (by (with_reducible repeat (first | apply Kd.R_alloc | apply Kd.R_drewN | apply Kd.R_drew)); exact HO_225003.out) (Kd.R_base ho0) hb)
                                    have n2_ := Aside0.mk (Kd.R_lower (Kd.R_new' ho0 (Kd.R_lt (by (with_reducible repeat (first | apply Kd.R_alloc | apply Kd.R_drewN | apply Kd.R_drew)); exact HO_225003.out))) (below_size (by repeat (first | (with_reducible first | exact HB.out | apply below_alloc | apply pw_below_drewN | apply below_drew1 | refine below_set ?_ GE224.out | refine below_set ?_ GE240.out) | exact HB.out))))
                                    have n3_ := Aside0.mk (blk_below (g := gb224) (o := .cells #[.int .u32 x225000_3, .int .u32 x225001_3, .int .u32 x225002_3, .slice Ao49 x225003_3.length co49, .int .i64 x225004_3] 72 (0, 0)) (by (with_reducible repeat (first | refine blk_drewN ?_ _ | refine blk_drew ?_ | refine blk_alloc ?_ _)); exact BK224.out) hb)
                                    have n4_ := Aside0.mk (blk_below (g := gb240) (o := .cells #[.int .u32 0, .int .u32 0, .int .u32 0, .slice none 0 0, .int .i64 0] 72 (0, 0)) (by (with_reducible repeat (first | refine blk_drewN ?_ _ | refine blk_drew ?_ | refine blk_alloc ?_ _)); exact BK240.out) hb)
                                    have n5_ := Aside0.mk (below_step (by repeat (first | (with_reducible first | exact HB.out | apply below_alloc | apply pw_below_drewN | apply below_drew1 | refine below_set ?_ GE224.out | refine below_set ?_ GE240.out) | exact HB.out)) hb)
                                    clear HO_8
                                    clear HO_225003
                                    clear BK224
                                    clear BK240
                                    clear HB
                                    have HO_8 := n0_
                                    have HO_225003 := n1_
                                    have HO236 := n2_
                                    have BK224 := n3_
                                    have BK240 := n4_
                                    have HB := n5_
                                    clear n0_ n1_ n2_ n3_ n4_ n5_
                                    (try clear hb)
                                    (try clear hb2)
                                    (try clear hk)
                                    (try clear hi)
                                    (try clear ho0)
                                    refine hK.out _ _ ⟨(blk_cell BK224.out 0).trans rfl, (blk_cell BK224.out 1).trans rfl, (blk_cell BK224.out 2).trans rfl, (blk_cell BK224.out 3).trans rfl, (blk_cell BK224.out 4).trans rfl, ((HB.out.cell (World.block_lt_of_cell? w _ hw230_0)).trans hw230_0)⟩ (fun hHeld => ?_)
                                    clear hK K
                                    refine norm_ (a' := ?_) ?_ ?_
                                    rotate_left
                                    · show Act.put _ (some 111) _ = _
                                      simp only [Act.put, List.setIfInBounds_toArray, List.set_cons_zero, List.set_cons_succ, i64_w, i32_w]
                                      rfl
                                    refine pure_ (i := 6) (N := some 105) (v := ?_) (a' := ?_) #[true, true, true, true, true, true, true, false, false, false, true, false, false, false] rfl rfl (any_of HT_.out (by kernel_rfl)) (fun _ _ _ h => h) (Or.inl ⟨by rfl, ?_⟩) ?_ ?_
                                    rotate_left
                                    · intro w'
                                      go_simp
                                      with_reducible rfl
                                    rotate_left
                                    · simp only [Act.put, List.setIfInBounds_toArray, List.set_cons_zero, List.set_cons_succ, i64_w, i32_w]
                                      rfl
                                    refine pure_ (i := 7) (N := some 112) (v := ?_) (a' := ?_) #[true, true, true, true, true, true, true, true, false, false, true, false, false, false] rfl rfl (any_of HT_.out (by kernel_rfl)) (fun _ _ _ h => h) (Or.inl ⟨by rfl, ?_⟩) ?_ ?_
                                    rotate_left
                                    · intro w'
                                      go_simp
                                      with_reducible rfl
                                    rotate_left
                                    · simp only [Act.put, List.setIfInBounds_toArray, List.set_cons_zero, List.set_cons_succ, i64_w, i32_w]
                                      rfl
                                    refine pure_ (i := 8) (N := some 113) (v := ?_) (a' := ?_) #[true, true, true, true, true, true, true, true, true, false, true, false, false, false] rfl rfl (any_of HT_.out (by kernel_rfl)) (fun _ _ _ h => h) (Or.inl ⟨by rfl, ?_⟩) ?_ ?_
                                    rotate_left
                                    · intro w'
                                      go_simp
                                      with_reducible rfl
                                    rotate_left
                                    · simp only [Act.put, List.setIfInBounds_toArray, List.set_cons_zero, List.set_cons_succ, i64_w, i32_w]
                                      rfl
                                    refine pure_ (i := 9) (N := some 114) (v := ?_) (a' := ?_) #[true, true, true, true, true, true, true, true, true, true, true, false, false, false] rfl rfl (any_of HT_.out (by kernel_rfl)) (fun _ _ _ h => h) (Or.inl ⟨by rfl, ?_⟩) ?_ ?_
                                    rotate_left
                                    · intro w'
                                      go_simp
                                      with_reducible rfl
                                    rotate_left
                                    · simp only [Act.put, List.setIfInBounds_toArray, List.set_cons_zero, List.set_cons_succ, i64_w, i32_w]
                                      rfl
                                    exact norm_ (by simp only [putAll, Act.put, List.setIfInBounds_toArray, List.set_cons_zero, List.set_cons_succ]) (hCont (v235, gb240) _ ⟨hHeld, (by (with_reducible repeat (first | apply Kd.R_alloc | apply Kd.R_drewN | apply Kd.R_drew)); exact Kd.R_mono HO236.out (fun _ hk => by first | exact hk.2 | exact hk | exact hk.1 | exact hk.2 | exact hk.1.1 | exact hk.1.2)), (by (with_reducible repeat (first | apply Kd.R_alloc | apply Kd.R_drewN | apply Kd.R_drew)); exact Kd.R_mono HO_225003.out (fun _ hk => hk.2)), (by (with_reducible repeat (first | apply Kd.R_alloc | apply Kd.R_drewN | apply Kd.R_drew)); exact HO_8.out), (by (with_reducible repeat (first | refine blk_drewN ?_ _ | refine blk_drew ?_ | refine blk_alloc ?_ _)); exact BK224.out), (by (with_reducible repeat (first | refine blk_drewN ?_ _ | refine blk_drew ?_ | refine blk_alloc ?_ _)); exact BK240.out), GW240.out, GE240.out, NB224_240.out, NB240_224.out, (by repeat (first | (with_reducible first | exact HB.out | apply below_alloc | apply pw_below_drewN | apply below_drew1 | refine below_set ?_ GE224.out | refine below_set ?_ GE240.out) | exact HB.out))⟩)
                                rintro ⟨v235, gb240⟩ w53 ⟨hS_, h0_, h1_, h2_, h3_, h4_, h5_, h6_, h7_, h8_, h9_⟩
                                have n0_ : Aside0 (Kd.R (Kd.int .u8) 5 w53 w.heap.size (fun k_ => some k_ ≠ (.slice Ao49 x225003_3.length co49 : Value).ownBlock) v235 t234) := ⟨h0_⟩
                                have n1_ : Aside0 (Kd.R (Kd.int .u8) 5 w53 w.heap.size (fun k_ => some k_ ≠ (v235 : Value).ownBlock) (.slice Ao49 x225003_3.length co49) x225003_3) := ⟨h1_⟩
                                have n2_ : Aside0 (Kd.R Kd.bool 4 w53 w.heap.size (fun _ => True) v209 t207) := ⟨h2_⟩
                                have n3_ : Aside0 (w53.heap[gb224]? = some (.cells #[.int .u32 x225000_3, .int .u32 x225001_3, .int .u32 x225002_3, .slice Ao49 x225003_3.length co49, .int .i64 x225004_3] 72 (0, 0))) := ⟨h3_⟩
                                have n4_ : Aside0 (w53.heap[gb240]? = some (.cells #[.int .u32 0, .int .u32 0, .int .u32 0, .slice none 0 0, .int .i64 0] 72 (0, 0))) := ⟨h4_⟩
                                have n5_ : Aside0 (w.heap.size ≤ gb240) := ⟨h5_⟩
                                have n6_ : Aside0 (w.heap.size ≤ gb240) := ⟨h6_⟩
                                have n7_ : Aside0 (gb224 ≠ gb240) := ⟨h7_⟩
                                have n8_ : Aside0 (gb240 ≠ gb224) := ⟨h8_⟩
                                have n9_ : Aside0 (Below w.heap.size w w53) := ⟨h9_⟩
                                clear HO_8
                                clear HO_225003
                                clear BK224
                                clear HB
                                clear h0_ h1_ h2_ h3_ h4_ h5_ h6_ h7_ h8_ h9_
                                have HO236 := n0_
                                have HO_225003 := n1_
                                have HO_8 := n2_
                                have BK224 := n3_
                                have BK240 := n4_
                                have GW240 := n5_
                                have GE240 := n6_
                                have NB224_240 := n7_
                                have NB240_224 := n8_
                                have HB := n9_
                                clear n0_ n1_ n2_ n3_ n4_ n5_ n6_ n7_ n8_ n9_
                                have hHeld : w53.cell? ⟨gb224, 0, none⟩ = some (.int .u32 x225000_3) ∧ w53.cell? ⟨gb224, 1, none⟩ = some (.int .u32 x225001_3) ∧ w53.cell? ⟨gb224, 2, none⟩ = some (.int .u32 x225002_3) ∧ w53.cell? ⟨gb224, 3, none⟩ = some (.slice Ao49 x225003_3.length co49) ∧ w53.cell? ⟨gb224, 4, none⟩ = some (.int .i64 x225004_3) ∧ w53.cell? (ad230.add (x14_3).toNat) = some (.int .i64 (rd l1 x14_3)) := hS_
                                obtain ⟨Ao57, co57, eo57⟩ := Kd.R_slice HO236.out
                                (first | subst eo57 | (injection eo57 with f1_ f2_ f3_; have f4_ := f1_.symm; have f5_ := f3_.symm; clear f1_ f2_ f3_; subst f4_; subst f5_))
                                refine norm_ (a' := ?_) ?_ ?_
                                rotate_left
                                · simp only [putAll, Act.put, List.setIfInBounds_toArray, List.set_cons_zero, List.set_cons_succ]
                                  rfl
                                refine one_ (i := 11) (N := none) #[true, true, true, true, true, true, true, true, true, true, true, true, false, false] rfl rfl (one_of HT_.out (by kernel_rfl)) (by decide) (fun K hK => ?_)
                                have hs54 : w53.cell? ⟨gb240, 0, none⟩ = some (.int .u32 0) := (blk_cell BK240.out 0).trans rfl
                                have hfs54 := blk_frozen BK240.out 0
                                have hns54_0 := NB224_240.out
                                have hms54_0 := NB240_224.out
                                have hs55 : w53.cell? ⟨gb240, 1, none⟩ = some (.int .u32 0) := (blk_cell BK240.out 1).trans rfl
                                have hfs55 := blk_frozen BK240.out 1
                                have hns55_0 := NB224_240.out
                                have hms55_0 := NB240_224.out
                                have hs56 : w53.cell? ⟨gb240, 2, none⟩ = some (.int .u32 0) := (blk_cell BK240.out 2).trans rfl
                                have hfs56 := blk_frozen BK240.out 2
                                have hns56_0 := NB224_240.out
                                have hms56_0 := NB240_224.out
                                have hs58 : w53.cell? ⟨gb240, 3, none⟩ = some (.slice none 0 0) := (blk_cell BK240.out 3).trans rfl
                                have hfs58 := blk_frozen BK240.out 3
                                have hns58_0 := NB224_240.out
                                have hms58_0 := NB240_224.out
                                have hs59 : w53.cell? ⟨gb240, 4, none⟩ = some (.int .i64 0) := (blk_cell BK240.out 4).trans rfl
                                have hfs59 := blk_frozen BK240.out 4
                                have hns59_0 := NB224_240.out
                                have hms59_0 := NB240_224.out
                                refine skip_ (w1 := ?_) (by rfl) rfl ?_ ?_
                                rotate_left
                                · go_simp
                                  rfl
                                refine hK.out _ _ ⟨((cell_far (p := ⟨gb240, _, none⟩) NB224_240.out _).trans (((cell_far (p := ⟨gb240, _, none⟩) NB224_240.out _).trans (((cell_far (p := ⟨gb240, _, none⟩) NB224_240.out _).trans (((cell_far (p := ⟨gb240, _, none⟩) NB224_240.out _).trans (((cell_far (p := ⟨gb240, _, none⟩) NB224_240.out _).trans (hHeld.1)))))))))), ((cell_far (p := ⟨gb240, _, none⟩) NB224_240.out _).trans (((cell_far (p := ⟨gb240, _, none⟩) NB224_240.out _).trans (((cell_far (p := ⟨gb240, _, none⟩) NB224_240.out _).trans (((cell_far (p := ⟨gb240, _, none⟩) NB224_240.out _).trans (((cell_far (p := ⟨gb240, _, none⟩) NB224_240.out _).trans (hHeld.2.1)))))))))), ((cell_far (p := ⟨gb240, _, none⟩) NB224_240.out _).trans (((cell_far (p := ⟨gb240, _, none⟩) NB224_240.out _).trans (((cell_far (p := ⟨gb240, _, none⟩) NB224_240.out _).trans (((cell_far (p := ⟨gb240, _, none⟩) NB224_240.out _).trans (((cell_far (p := ⟨gb240, _, none⟩) NB224_240.out _).trans (hHeld.2.2.1)))))))))), ((cell_far (p := ⟨gb240, _, none⟩) NB224_240.out _).trans (((cell_far (p := ⟨gb240, _, none⟩) NB224_240.out _).trans (((cell_far (p := ⟨gb240, _, none⟩) NB224_240.out _).trans (((cell_far (p := ⟨gb240, _, none⟩) NB224_240.out _).trans (((cell_far (p := ⟨gb240, _, none⟩) NB224_240.out _).trans (hHeld.2.2.2.1)))))))))), ((cell_far (p := ⟨gb240, _, none⟩) NB224_240.out _).trans (((cell_far (p := ⟨gb240, _, none⟩) NB224_240.out _).trans (((cell_far (p := ⟨gb240, _, none⟩) NB224_240.out _).trans (((cell_far (p := ⟨gb240, _, none⟩) NB224_240.out _).trans (((cell_far (p := ⟨gb240, _, none⟩) NB224_240.out _).trans (hHeld.2.2.2.2.1)))))))))), ((cell_far (p := ⟨gb240, _, none⟩) (by first | exact Nat.ne_of_lt (Nat.lt_of_lt_of_le (by have := World.block_lt_of_cell? _ _ hw230_0; first | rwa [add_block] at this | exact this) GW240.out) | (rw [add_block]; exact Nat.ne_of_lt (Nat.lt_of_lt_of_le (by have := World.block_lt_of_cell? _ _ hw230_0; first | rwa [add_block] at this | exact this) GW240.out)) | (show (Addr.add _ _).block ≠ _; rw [add_block]; exact Nat.ne_of_lt (Nat.lt_of_lt_of_le (by have := World.block_lt_of_cell? _ _ hw230_0; first | rwa [add_block] at this | exact this) GW240.out)) | (dsimp only; exact Nat.ne_of_lt (Nat.lt_of_lt_of_le (by have := World.block_lt_of_cell? _ _ hw230_0; first | rwa [add_block] at this | exact this) GW240.out))) _).trans (((cell_far (p := ⟨gb240, _, none⟩) (by first | exact Nat.ne_of_lt (Nat.lt_of_lt_of_le (by have := World.block_lt_of_cell? _ _ hw230_0; first | rwa [add_block] at this | exact this) GW240.out) | (rw [add_block]; exact Nat.ne_of_lt (Nat.lt_of_lt_of_le (by have := World.block_lt_of_cell? _ _ hw230_0; first | rwa [add_block] at this | exact this) GW240.out)) | (show (Addr.add _ _).block ≠ _; rw [add_block]; exact Nat.ne_of_lt (Nat.lt_of_lt_of_le (by have := World.block_lt_of_cell? _ _ hw230_0; first | rwa [add_block] at this | exact this) GW240.out)) | (dsimp only; exact Nat.ne_of_lt (Nat.lt_of_lt_of_le (by have := World.block_lt_of_cell? _ _ hw230_0; first | rwa [add_block] at this | exact this) GW240.out))) _).trans (((cell_far (p := ⟨gb240, _, none⟩) (by first | exact Nat.ne_of_lt (Nat.lt_of_lt_of_le (by have := World.block_lt_of_cell? _ _ hw230_0; first | rwa [add_block] at this | exact this) GW240.out) | (rw [add_block]; exact Nat.ne_of_lt (Nat.lt_of_lt_of_le (by have := World.block_lt_of_cell? _ _ hw230_0; first | rwa [add_block] at this | exact this) GW240.out)) | (show (Addr.add _ _).block ≠ _; rw [add_block]; exact Nat.ne_of_lt (Nat.lt_of_lt_of_le (by have := World.block_lt_of_cell? _ _ hw230_0; first | rwa [add_block] at this | exact this) GW240.out)) | (dsimp only; exact Nat.ne_of_lt (Nat.lt_of_lt_of_le (by have := World.block_lt_of_cell? _ _ hw230_0; first | rwa [add_block] at this | exact this) GW240.out))) _).trans (((cell_far (p := ⟨gb240, _, none⟩) (by first | exact Nat.ne_of_lt (Nat.lt_of_lt_of_le (by have := World.block_lt_of_cell? _ _ hw230_0; first | rwa [add_block] at this | exact this) GW240.out) | (rw [add_block]; exact Nat.ne_of_lt (Nat.lt_of_lt_of_le (by have := World.block_lt_of_cell? _ _ hw230_0; first | rwa [add_block] at this | exact this) GW240.out)) | (show (Addr.add _ _).block ≠ _; rw [add_block]; exact Nat.ne_of_lt (Nat.lt_of_lt_of_le (by have := World.block_lt_of_cell? _ _ hw230_0; first | rwa [add_block] at this | exact this) GW240.out)) | (dsimp only; exact Nat.ne_of_lt (Nat.lt_of_lt_of_le (by have := World.block_lt_of_cell? _ _ hw230_0; first | rwa [add_block] at this | exact this) GW240.out))) _).trans (((cell_far (p := ⟨gb240, _, none⟩) (by first | exact Nat.ne_of_lt (Nat.lt_of_lt_of_le (by have := World.block_lt_of_cell? _ _ hw230_0; first | rwa [add_block] at this | exact this) GW240.out) | (rw [add_block]; exact Nat.ne_of_lt (Nat.lt_of_lt_of_le (by have := World.block_lt_of_cell? _ _ hw230_0; first | rwa [add_block] at this | exact this) GW240.out)) | (show (Addr.add _ _).block ≠ _; rw [add_block]; exact Nat.ne_of_lt (Nat.lt_of_lt_of_le (by have := World.block_lt_of_cell? _ _ hw230_0; first | rwa [add_block] at this | exact this) GW240.out)) | (dsimp only; exact Nat.ne_of_lt (Nat.lt_of_lt_of_le (by have := World.block_lt_of_cell? _ _ hw230_0; first | rwa [add_block] at this | exact this) GW240.out))) _).trans (hHeld.2.2.2.2.2))))))))))⟩ (fun hHeld => ?_)
                                clear hK K
                                refine pure_ (i := 12) (N := some 16) (v := ?_) (a' := ?_) #[true, true, true, true, true, true, true, true, true, true, true, true, true, false] rfl rfl (any_of HT_.out (by kernel_rfl)) (fun _ _ _ h => h) (Or.inl ⟨by rfl, ?_⟩) ?_ ?_
                                rotate_left
                                · intro w'
                                  go_simp
                                  with_reducible rfl
                                rotate_left
                                · simp only [Act.put, List.setIfInBounds_toArray, List.set_cons_zero, List.set_cons_succ, i64_w, i32_w]
                                  rfl
                                refine pure_ (i := 13) (N := some 17) (v := ?_) (a' := ?_) #[true, true, true, true, true, true, true, true, true, true, true, true, true, true] rfl rfl (any_of HT_.out (by kernel_rfl)) (fun _ _ _ h => h) (Or.inl ⟨by rfl, ?_⟩) ?_ ?_
                                rotate_left
                                · intro w'
                                  go_simp
                                  with_reducible rfl
                                rotate_left
                                · simp only [Act.put, List.setIfInBounds_toArray, List.set_cons_zero, List.set_cons_succ, i64_w, i32_w]
                                  rfl
                                refine done_ (done_of HT_.out (by kernel_rfl)) ?_
                                obtain ⟨Ao60, co60, eo60⟩ := Kd.R_slice HO_8.out
                                subst eo60
                                have p241 : 0 ≤ (x14_3 : Int) := of_decide_eq_true (by first | (with_reducible assumption) | assumption)
                                have q241 : x14_3 < (t207.length : Int) := of_decide_eq_true (by first | (with_reducible assumption) | assumption)
                                obtain ⟨ad241, e241, hx241_0⟩ := Kd.at_bool (Kd.R_reads' HO_8.out).2.2 x14_3 p241 q241
                                cases e241
                                have hn241_0 : ad241.block ≠ gb240 := Kd.own_blk (Kd.R_ne HO_8.out BK240.out (by decide))
                                have hn241_1 : ad241.block ≠ gb240 := Kd.own_blk (Kd.R_ne HO_8.out BK240.out (by decide))
                                have hn241_2 : ad241.block ≠ gb240 := Kd.own_blk (Kd.R_ne HO_8.out BK240.out (by decide))
                                have hn241_3 : ad241.block ≠ gb240 := Kd.own_blk (Kd.R_ne HO_8.out BK240.out (by decide))
                                have hn241_4 : ad241.block ≠ gb240 := Kd.own_blk (Kd.R_ne HO_8.out BK240.out (by decide))
                                replace hx241_0 := (cell_far (p := ⟨gb240, 0, none⟩) (by first | (rw [add_block]; exact hn241_0) | (show (Addr.add _ _).block ≠ _; rw [add_block]; exact hn241_0) | exact hn241_0) (.int .u32 t231)).trans hx241_0
                                replace hx241_0 := (cell_far (p := ⟨gb240, 1, none⟩) (by first | (rw [add_block]; exact hn241_1) | (show (Addr.add _ _).block ≠ _; rw [add_block]; exact hn241_1) | exact hn241_1) (.int .u32 t232)).trans hx241_0
                                replace hx241_0 := (cell_far (p := ⟨gb240, 2, none⟩) (by first | (rw [add_block]; exact hn241_2) | (show (Addr.add _ _).block ≠ _; rw [add_block]; exact hn241_2) | exact hn241_2) (.int .u32 t233)).trans hx241_0
                                replace hx241_0 := (cell_far (p := ⟨gb240, 3, none⟩) (by first | (rw [add_block]; exact hn241_3) | (show (Addr.add _ _).block ≠ _; rw [add_block]; exact hn241_3) | exact hn241_3) (.slice Ao57 t234.length co57)).trans hx241_0
                                replace hx241_0 := (cell_far (p := ⟨gb240, 4, none⟩) (by first | (rw [add_block]; exact hn241_4) | (show (Addr.add _ _).block ≠ _; rw [add_block]; exact hn241_4) | exact hn241_4) (.int .i64 t237)).trans hx241_0
                                clear hn241_0
                                clear hn241_1
                                clear hn241_2
                                clear hn241_3
                                clear hn241_4
                                replace p241 := eq_true p241
                                replace q241 := eq_true q241
                                have hnb61 := NB240_224.out
                                have hnc61 := NB224_240.out
                                have hcz62_0 : w53.cell? ⟨gb240, 0, none⟩ = some (.int .u32 0) := (blk_cell BK240.out 0).trans rfl
                                have hcz62_1 : w53.cell? ⟨gb240, 1, none⟩ = some (.int .u32 0) := (blk_cell BK240.out 1).trans rfl
                                have hcz62_2 : w53.cell? ⟨gb240, 2, none⟩ = some (.int .u32 0) := (blk_cell BK240.out 2).trans rfl
                                have hcz62_3 : w53.cell? ⟨gb240, 3, none⟩ = some (.slice none 0 0) := (blk_cell BK240.out 3).trans rfl
                                have hcz62_4 : w53.cell? ⟨gb240, 4, none⟩ = some (.int .i64 0) := (blk_cell BK240.out 4).trans rfl
                                have hfz62_0 := blk_frozen BK240.out 0
                                have hfz62_1 := blk_frozen BK240.out 1
                                have hfz62_2 := blk_frozen BK240.out 2
                                have hfz62_3 := blk_frozen BK240.out 3
                                have hfz62_4 := blk_frozen BK240.out 4
                                have hcz63_0 : w53.cell? ⟨gb224, 0, none⟩ = some (.int .u32 x225000_3) := (blk_cell BK224.out 0).trans rfl
                                have hcz63_1 : w53.cell? ⟨gb224, 1, none⟩ = some (.int .u32 x225001_3) := (blk_cell BK224.out 1).trans rfl
                                have hcz63_2 : w53.cell? ⟨gb224, 2, none⟩ = some (.int .u32 x225002_3) := (blk_cell BK224.out 2).trans rfl
                                have hcz63_3 : w53.cell? ⟨gb224, 3, none⟩ = some (.slice Ao49 x225003_3.length co49) := (blk_cell BK224.out 3).trans rfl
                                have hcz63_4 : w53.cell? ⟨gb224, 4, none⟩ = some (.int .i64 x225004_3) := (blk_cell BK224.out 4).trans rfl
                                have hfz63_0 := blk_frozen BK224.out 0
                                have hfz63_1 := blk_frozen BK224.out 1
                                have hfz63_2 := blk_frozen BK224.out 2
                                have hfz63_3 := blk_frozen BK224.out 3
                                have hfz63_4 := blk_frozen BK224.out 4
                                try go_wp2
                                go_roundg k3
                                case measure => have := HJ4.out; have := HJ18.out; have := HK3.out; omega
                                case rel => exact ⟨(wrap64 (x14_3 + 1)), (t231), (t232), (t233), (t234), (t237), (.slice Ao57 t234.length co57), (by first | rfl | (simp; done) | (simp [*]; done)), H', ⟨by have := HJ4.out; have := HJ18.out; have := HK3.out; omega⟩, ⟨by (with_reducible repeat (first | apply Kd.R_alloc | apply Kd.R_drewN | apply Kd.R_drew)); exact Kd.R_mono (Kd.R_far (p := ⟨gb224, 4, none⟩) (Kd.R_far (p := ⟨gb224, 3, none⟩) (Kd.R_far (p := ⟨gb224, 2, none⟩) (Kd.R_far (p := ⟨gb224, 1, none⟩) (Kd.R_far (p := ⟨gb224, 0, none⟩) (Kd.R_far (p := ⟨gb240, 4, none⟩) (Kd.R_far (p := ⟨gb240, 3, none⟩) (Kd.R_far (p := ⟨gb240, 2, none⟩) (Kd.R_far (p := ⟨gb240, 1, none⟩) (Kd.R_far (p := ⟨gb240, 0, none⟩) (Kd.R_types (Kd.R_types HO_8.out BK240.out (by decide)) BK224.out (by decide)) (fun _ hk => hk.1.2) (.int .u32 t231)) (fun _ hk => hk.1.2) (.int .u32 t232)) (fun _ hk => hk.1.2) (.int .u32 t233)) (fun _ hk => hk.1.2) (.slice Ao57 t234.length co57)) (fun _ hk => hk.1.2) (.int .i64 t237)) (fun _ hk => hk.2) (.int .u32 t231)) (fun _ hk => hk.2) (.int .u32 t232)) (fun _ hk => hk.2) (.int .u32 t233)) (fun _ hk => hk.2) (.slice Ao57 t234.length co57)) (fun _ hk => hk.2) (.int .i64 t237)) (fun _ hk => trivial)⟩, ⟨by (with_reducible repeat (first | apply Kd.R_alloc | apply Kd.R_drewN | apply Kd.R_drew)); exact Kd.R_mono (Kd.R_far (p := ⟨gb224, 4, none⟩) (Kd.R_far (p := ⟨gb224, 3, none⟩) (Kd.R_far (p := ⟨gb224, 2, none⟩) (Kd.R_far (p := ⟨gb224, 1, none⟩) (Kd.R_far (p := ⟨gb224, 0, none⟩) (Kd.R_far (p := ⟨gb240, 4, none⟩) (Kd.R_far (p := ⟨gb240, 3, none⟩) (Kd.R_far (p := ⟨gb240, 2, none⟩) (Kd.R_far (p := ⟨gb240, 1, none⟩) (Kd.R_far (p := ⟨gb240, 0, none⟩) (Kd.R_types (Kd.R_types HO236.out BK240.out (by decide)) BK224.out (by decide)) (fun _ hk => hk.1.2) (.int .u32 t231)) (fun _ hk => hk.1.2) (.int .u32 t232)) (fun _ hk => hk.1.2) (.int .u32 t233)) (fun _ hk => hk.1.2) (.slice Ao57 t234.length co57)) (fun _ hk => hk.1.2) (.int .i64 t237)) (fun _ hk => hk.2) (.int .u32 t231)) (fun _ hk => hk.2) (.int .u32 t232)) (fun _ hk => hk.2) (.int .u32 t233)) (fun _ hk => hk.2) (.slice Ao57 t234.length co57)) (fun _ hk => hk.2) (.int .i64 t237)) (fun _ hk => trivial)⟩, ⟨by (with_reducible repeat (first | refine blk_drewN ?_ _ | refine blk_drew ?_ | refine blk_alloc ?_ _)); refine blk_put (cs := #[.int .u32 t231, .int .u32 t232, .int .u32 t233, .slice Ao57 t234.length co57, .int .i64 x225004_3]) ?_ 4 _ rfl; (with_reducible repeat (first | refine blk_drewN ?_ _ | refine blk_drew ?_ | refine blk_alloc ?_ _)); refine blk_put (cs := #[.int .u32 t231, .int .u32 t232, .int .u32 t233, .slice Ao49 x225003_3.length co49, .int .i64 x225004_3]) ?_ 3 _ rfl; (with_reducible repeat (first | refine blk_drewN ?_ _ | refine blk_drew ?_ | refine blk_alloc ?_ _)); refine blk_put (cs := #[.int .u32 t231, .int .u32 t232, .int .u32 x225002_3, .slice Ao49 x225003_3.length co49, .int .i64 x225004_3]) ?_ 2 _ rfl; (with_reducible repeat (first | refine blk_drewN ?_ _ | refine blk_drew ?_ | refine blk_alloc ?_ _)); refine blk_put (cs := #[.int .u32 t231, .int .u32 x225001_3, .int .u32 x225002_3, .slice Ao49 x225003_3.length co49, .int .i64 x225004_3]) ?_ 1 _ rfl; (with_reducible repeat (first | refine blk_drewN ?_ _ | refine blk_drew ?_ | refine blk_alloc ?_ _)); refine blk_put (cs := #[.int .u32 x225000_3, .int .u32 x225001_3, .int .u32 x225002_3, .slice Ao49 x225003_3.length co49, .int .i64 x225004_3]) ?_ 0 _ rfl; (with_reducible repeat (first | refine blk_drewN ?_ _ | refine blk_drew ?_ | refine blk_alloc ?_ _)); refine blk_far ?_ NB224_240.out _; (with_reducible repeat (first | refine blk_drewN ?_ _ | refine blk_drew ?_ | refine blk_alloc ?_ _)); refine blk_far ?_ NB224_240.out _; (with_reducible repeat (first | refine blk_drewN ?_ _ | refine blk_drew ?_ | refine blk_alloc ?_ _)); refine blk_far ?_ NB224_240.out _; (with_reducible repeat (first | refine blk_drewN ?_ _ | refine blk_drew ?_ | refine blk_alloc ?_ _)); refine blk_far ?_ NB224_240.out _; (with_reducible repeat (first | refine blk_drewN ?_ _ | refine blk_drew ?_ | refine blk_alloc ?_ _)); refine blk_far ?_ NB224_240.out _; (with_reducible repeat (first | refine blk_drewN ?_ _ | refine blk_drew ?_ | refine blk_alloc ?_ _)); exact BK224.out⟩, ⟨by repeat (first | (with_reducible first | exact HB.out | apply below_alloc | apply pw_below_drewN | apply below_drew1 | refine below_set ?_ GE224.out | refine below_set ?_ GE240.out) | exact HB.out)⟩⟩
                            · rw [if_neg c47] at H
                              exact absurd H (by simp)
                          · rw [if_neg c46] at H
                            exact absurd H (by simp)
                        · rw [if_neg c44] at H
                          exact absurd H (by simp)
                      · rw [if_neg c43] at H
                        have c43b0 : decide (x14_3 < (l1.length : Int)) = false := decide_eq_false c43
                        clear c43
                        obtain rfl := Option.some.inj H
                        go_wp2
                        go_ret
                        exact ⟨by first | rfl | (simp [errW_none, errW_some] <;> rfl) | (simp [*, errW_none, errW_some] <;> rfl), by repeat (first | (with_reducible first | exact HB.out | apply below_alloc | apply pw_below_drewN | apply below_drew1 | refine below_set ?_ GE224.out) | exact HB.out)⟩
          · rw [if_neg c16] at H
            exact absurd H (by simp)
        · rw [if_neg c15] at H
          exact absurd H (by simp)

/-- THE ONE PURE STATEMENT of bitloftlaw21_DecoderParts: yours. -/
def bitloftlaw21_DecoderParts.Pure : Prop := ∀ (l0 : List Int) (l1 : List Int) (a2 : Int), l0.length ≤ maxLen → l0.length * 1 ≤ 140737488351232 → (∀ x ∈ l0, (Lit.int .u8 x).wf = true) → l1.length ≤ maxLen → l1.length * 8 ≤ 140737488351232 → (∀ x ∈ l1, (Lit.int .i64 x).wf = true) → (Lit.int .i64 a2).wf = true → ∃ k, bitloftlaw21_DecoderParts.f k l0 l1 a2 = some true
theorem bitloftlaw21_DecoderParts.walk (P : bitloftlaw21_DecoderParts.Pure) (a0 : Option Addr) (len0 cap0 : Nat) (z0 : List Int) (a1 : Option Addr) (len1 cap1 : Nat) (z1 : List Int) (a2 : Int) (w : World) (w0 : (a0 = none ∧ len0 = 0 ∧ cap0 = 0 ∧ z0 = []) ∨ ∃ x, a0 = some x ∧ len0 ≤ cap0 ∧ cap0 ≤ maxLen ∧ z0.length = cap0 ∧ (∀ i, i < z0.length → w.cell? (x.add i) = some (.int .u8 (z0.getD i 0))) ∧ ∀ n ∈ z0, (Lit.int .u8 n).wf = true) (y0 : len0 * 1 ≤ 140737488351232) (w1 : (a1 = none ∧ len1 = 0 ∧ cap1 = 0 ∧ z1 = []) ∨ ∃ x, a1 = some x ∧ len1 ≤ cap1 ∧ cap1 ≤ maxLen ∧ z1.length = cap1 ∧ (∀ i, i < z1.length → w.cell? (x.add i) = some (.int .i64 (z1.getD i 0))) ∧ ∀ n ∈ z1, (Lit.int .i64 n).wf = true) (y1 : len1 * 8 ≤ 140737488351232) (w2 : (Lit.int .i64 a2).wf = true) :
    Calls Try.prog 15 #[.slice a0 len0 cap0, .slice a1 len1 cap1, .int .i64 a2] w fun e w' => e = .returned (.bool true) ∧ Below w.heap.size w w' := by
  obtain ⟨l0, rfl, hr0, hm0, hw0, hc0⟩ := ReadsInt.ofRowC w0
  obtain ⟨l1, rfl, hr1, hm1, hw1, hc1⟩ := ReadsInt.ofRowC w1
  obtain ⟨k, h⟩ := P l0 l1 a2 hm0 y0 hw0 hm1 y1 hw1 w2
  refine (bitloftlaw21_DecoderParts.calls k _ _ l0 _ _ l1 a2 true w (Kd.C_of_reads (d := (0 : Int)) (h1 := fun _ => rfl) hr0) hc0 (Kd.C_of_reads (d := (0 : Int)) (h1 := fun _ => rfl) hr1) hc1 h).mono ?_
  rintro e w' ⟨rfl, hd⟩
  exact ⟨rfl, hd⟩

end Go.Proofs.Ytgapkifgddjijaa.QD
