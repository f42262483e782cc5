-- Written by qprint.py (a program of this session) out of the translation's print. Not trusted: Lean checks it.
import Derived.Test.YtgapkifgddjijaaQAx0
import Derived.Test.YtgapkifgddjijaaQAx1
namespace Go.Proofs.Ytgapkifgddjijaa.QA
open Go.RowKit Go.Proofs.YtgapkifgddjijaaW.PrintWords Go.Proofs.YtgapkifgddjijaaW.PrintLast Go.Proofs.YtgapkifgddjijaaW.PrintMore
attribute [local go_sem] max2_int min2_int max_two min_two max_three min_three max_four min_four   -- for this text's walks alone
set_option linter.unusedVariables false
set_option linter.unusedSimpArgs false

/-! ### bitloftlaw23_CostLogs: function 3 -/
mutual
def bitloftlaw23_CostLogs.j0 : Nat → Int → Int → Bool → Bool → Option (Bool)
  | 0, _, _, _, _ => none
  | k + 1, x0, x1, x5, x35 => if x35 = true then (some x5) else ((cost_Log.f k x0).bind fun bt120 => ((cost_Log.f k x1).bind fun bt122 => ((cost_Log.f k (IntKind.u64.wrap (x0 * x1))).bind fun bt124 => (if bt120.2 = 0 then (if bt122.2 = 0 then (if bt124.2 = 0 then (if bt120.1 > bt122.1 then (bitloftlaw23_CostLogs.j1 k x1 x5 bt122.1 true) else (if bt124.1 > (wrap64 ((wrap64 (bt120.1 + bt122.1)) + 3)) then (bitloftlaw23_CostLogs.j1 k x1 x5 bt122.1 true) else (bitloftlaw23_CostLogs.j1 k x1 x5 bt122.1 (decide (bt124.1 < (wrap64 ((wrap64 (bt120.1 + bt122.1)) - 1))))))) else (bitloftlaw23_CostLogs.j1 k x1 x5 bt122.1 true)) else (bitloftlaw23_CostLogs.j1 k x1 x5 bt122.1 true)) else (bitloftlaw23_CostLogs.j1 k x1 x5 bt122.1 true)))))
def bitloftlaw23_CostLogs.j1 : Nat → Int → Bool → Int → Bool → Option (Bool)
  | 0, _, _, _, _ => none
  | k + 1, x1, x5, x8, x84 => if x84 = true then (some false) else (if (IntKind.u64.wrap (2 * x1)) > 4294967296 then (some x5) else ((cost_Log.f k (IntKind.u64.wrap (2 * x1))).bind fun bt126 => (if x5 = true then (if bt126.2 = 0 then (some (bt126.1 == (wrap64 (x8 + 65536)))) else (some false)) else (some false))))
end
def bitloftlaw23_CostLogs.f (k : Nat) (a0 : Int) (a1 : Int) : Option (Bool) := (bitloftlaw23_alive.f k).bind fun t119 => (if a0 < 1 then (bitloftlaw23_CostLogs.j0 k a0 a1 t119 true) else (if a0 > a1 then (bitloftlaw23_CostLogs.j0 k a0 a1 t119 true) else (if a1 > 4294967296 then (bitloftlaw23_CostLogs.j0 k a0 a1 t119 true) else (if a0 = 0 then (none) else (if a1 > (IntKind.u64.wrap (Int.tdiv (4294967296 : Int) a0)) then (bitloftlaw23_CostLogs.j0 k a0 a1 t119 true) else (bitloftlaw23_CostLogs.j0 k a0 a1 t119 (!t119)))))))
theorem bitloftlaw23_CostLogs.mono_l : ∀ k, (∀ y0 y1 y2 y3, LeO (bitloftlaw23_CostLogs.j0 k y0 y1 y2 y3) (bitloftlaw23_CostLogs.j0 (k + 1) y0 y1 y2 y3)) ∧ (∀ y0 y1 y2 y3, LeO (bitloftlaw23_CostLogs.j1 k y0 y1 y2 y3) (bitloftlaw23_CostLogs.j1 (k + 1) y0 y1 y2 y3))
  | 0 => ⟨fun _ _ _ _ r h => by simp [bitloftlaw23_CostLogs.j0] at h, fun _ _ _ _ r h => by simp [bitloftlaw23_CostLogs.j1] at h⟩
  | k + 1 => by
    obtain ⟨ih0, ih1⟩ := bitloftlaw23_CostLogs.mono_l k
    refine ⟨?_, ?_⟩
    · intro y0 y1 y2 y3
      unfold bitloftlaw23_CostLogs.j0
      repeat' first
      | (with_reducible exact ih0 _ _ _ _)
      | (with_reducible exact ih1 _ _ _ _)
      | (with_reducible exact bitloftlaw23_alive.mono _)
      | (with_reducible exact cost_Log.mono _ _)
      | (with_reducible exact LeO.refl _)
      | (with_reducible exact LeO.none _)
      | (with_reducible refine LeO.ite ?_ ?_)
      | (with_reducible refine LeO.bind ?_ (fun _ => ?_))
      | exact ih0 _ _ _ _
      | exact ih1 _ _ _ _
      | exact bitloftlaw23_alive.mono _
      | exact cost_Log.mono _ _
      | exact LeO.none _
      | refine LeO.ite ?_ ?_
      | refine LeO.bind ?_ (fun _ => ?_)
    · intro y0 y1 y2 y3
      unfold bitloftlaw23_CostLogs.j1
      repeat' first
      | (with_reducible exact ih0 _ _ _ _)
      | (with_reducible exact ih1 _ _ _ _)
      | (with_reducible exact bitloftlaw23_alive.mono _)
      | (with_reducible exact cost_Log.mono _ _)
      | (with_reducible exact LeO.refl _)
      | (with_reducible exact LeO.none _)
      | (with_reducible refine LeO.ite ?_ ?_)
      | (with_reducible refine LeO.bind ?_ (fun _ => ?_))
      | exact ih0 _ _ _ _
      | exact ih1 _ _ _ _
      | exact bitloftlaw23_alive.mono _
      | exact cost_Log.mono _ _
      | exact LeO.none _
      | refine LeO.ite ?_ ?_
      | refine LeO.bind ?_ (fun _ => ?_)
theorem bitloftlaw23_CostLogs.mono : ∀ a0 a1 k, LeO (bitloftlaw23_CostLogs.f k a0 a1) (bitloftlaw23_CostLogs.f (k + 1) a0 a1) := by
  intro a0 a1 k
  obtain ⟨ih0, ih1⟩ := bitloftlaw23_CostLogs.mono_l k
  unfold bitloftlaw23_CostLogs.f
  repeat' first
      | (with_reducible exact ih0 _ _ _ _)
      | (with_reducible exact ih1 _ _ _ _)
      | (with_reducible exact bitloftlaw23_alive.mono _)
      | (with_reducible exact cost_Log.mono _ _)
      | (with_reducible exact LeO.refl _)
      | (with_reducible exact LeO.none _)
      | (with_reducible refine LeO.ite ?_ ?_)
      | (with_reducible refine LeO.bind ?_ (fun _ => ?_))
      | exact ih0 _ _ _ _
      | exact ih1 _ _ _ _
      | exact bitloftlaw23_alive.mono _
      | exact cost_Log.mono _ _
      | exact LeO.none _
      | refine LeO.ite ?_ ?_
      | refine LeO.bind ?_ (fun _ => ?_)
set_option maxHeartbeats 8000000 in
set_option maxRecDepth 100000 in
theorem bitloftlaw23_CostLogs.calls (k : Nat) (a0 : Int) (a1 : Int) (r : Bool) (w : World) (h : bitloftlaw23_CostLogs.f k a0 a1 = some r) :
    Calls Try.prog 3 #[.int .u64 a0, .int .u64 a1] w fun e w' => e = .returned (.bool r) ∧ Drawn0 w w' := by
  have H : ((bitloftlaw23_alive.f k).bind fun t119 => (if a0 < 1 then (bitloftlaw23_CostLogs.j0 k a0 a1 t119 true) else (if a0 > a1 then (bitloftlaw23_CostLogs.j0 k a0 a1 t119 true) else (if a1 > 4294967296 then (bitloftlaw23_CostLogs.j0 k a0 a1 t119 true) else (if a0 = 0 then (none) else (if a1 > (IntKind.u64.wrap (Int.tdiv (4294967296 : Int) a0)) then (bitloftlaw23_CostLogs.j0 k a0 a1 t119 true) else (bitloftlaw23_CostLogs.j0 k a0 a1 t119 (!t119)))))))) = some r := h
  clear h
  replace H := Option.bind_eq_some_iff.mp H
  obtain ⟨t119, A30, H⟩ := H
  replace H : (if a0 < 1 then (bitloftlaw23_CostLogs.j0 k a0 a1 t119 true) else (if a0 > a1 then (bitloftlaw23_CostLogs.j0 k a0 a1 t119 true) else (if a1 > 4294967296 then (bitloftlaw23_CostLogs.j0 k a0 a1 t119 true) else (if a0 = 0 then (none) else (if a1 > (IntKind.u64.wrap (Int.tdiv (4294967296 : Int) a0)) then (bitloftlaw23_CostLogs.j0 k a0 a1 t119 true) else (bitloftlaw23_CostLogs.j0 k a0 a1 t119 (!t119))))))) = some r := H
  have A3 := Aside0.mk A30
  clear A30
  have HC4 := Aside0.mk H
  clear H
  go_enter Try.func3, Try.ntmps3
  go_upto_region 2 with (first | ((with_reducible refine gate_callee (f := 22) rfl ?_); refine goesL_ (some 14) rfl rfl Try.func22 (by kernel_rfl) rfl #[] rfl (by (try simp only [List.map_toArray, List.map_cons, List.map_nil]); first | done | rfl | (simp only [List.length_drop, List.length_take]; rfl)) ?_; (with_reducible refine (bitloftlaw23_alive.calls k  t119 _ A3.out).mono ?_); rintro e w' ⟨rfl, ⟨nd, rfl⟩⟩; refine ⟨_, rfl, ?_⟩))
  (try simp only [Act.put, List.setIfInBounds_toArray, List.set_cons_zero, List.set_cons_succ])
  go_cut [35] (fun v35 wc => ∃ (kq : Nat) (x35_3 : Bool), v35 = .bool x35_3 ∧ Aside0 (bitloftlaw23_CostLogs.j0 kq a0 a1 t119 x35_3 = some r) ∧ Aside0 (kq ≤ k) ∧ Drawn0 w wc)
  case first =>
    have H := HC4.out
    clear HC4
    by_cases c5 : a0 < 1
    · rw [if_pos c5] at H
      have c5b0 : decide (a0 < 1) = true := decide_eq_true c5
      clear c5
      (first | rw [c5b0] | (simp only [i64_w, i32_w]; rw [c5b0]) | skip)
      have H' := Aside0.mk H
      clear H
      go_wp2
      go_meet
      case rel => exact ⟨_, (true), (by first | rfl | (simp; done) | (simp [*]; done)), H', ⟨by first | omega | exact Nat.le_refl _⟩, by repeat (first | exact Drawn0.refl _ | apply Drawn0.step)⟩
    · rw [if_neg c5] at H
      have c5b0 : decide (a0 < 1) = false := decide_eq_false c5
      clear c5
      (first | rw [c5b0] | (simp only [i64_w, i32_w]; rw [c5b0]) | skip)
      by_cases c6 : a0 > a1
      · rw [if_pos c6] at H
        have c6b0 : decide (a1 < a0) = true := decide_eq_true c6
        clear c6
        have H' := Aside0.mk H
        clear H
        go_wp2
        go_meet
        case rel => exact ⟨_, (true), (by first | rfl | (simp; done) | (simp [*]; done)), H', ⟨by first | omega | exact Nat.le_refl _⟩, by repeat (first | exact Drawn0.refl _ | apply Drawn0.step)⟩
      · rw [if_neg c6] at H
        have c6b0 : decide (a1 < a0) = false := decide_eq_false c6
        clear c6
        by_cases c7 : a1 > 4294967296
        · rw [if_pos c7] at H
          have c7b0 : decide (4294967296 < a1) = true := decide_eq_true c7
          clear c7
          have H' := Aside0.mk H
          clear H
          go_wp2
          go_meet
          case rel => exact ⟨_, (true), (by first | rfl | (simp; done) | (simp [*]; done)), H', ⟨by first | omega | exact Nat.le_refl _⟩, by repeat (first | exact Drawn0.refl _ | apply Drawn0.step)⟩
        · rw [if_neg c7] at H
          have c7b0 : decide (4294967296 < a1) = false := decide_eq_false c7
          clear c7
          by_cases c8 : a0 = 0
          · rw [if_pos c8] at H
            exact absurd H (by simp)
          · rw [if_neg c8] at H
            have c8b0 : (a0 == 0) = false := beq_eq_false_iff_ne.mpr c8
            have c8b1 : (a0 != 0) = true := bne_iff_ne.mpr c8
            by_cases c9 : a1 > (IntKind.u64.wrap (Int.tdiv (4294967296 : Int) a0))
            · rw [if_pos c9] at H
              have c9b0 : decide ((IntKind.u64.wrap (Int.tdiv (4294967296 : Int) a0)) < a1) = true := decide_eq_true c9
              clear c9
              have H' := Aside0.mk H
              clear H
              go_wp2
              go_meet
              case rel => exact ⟨_, (true), (by first | rfl | (simp; done) | (simp [*]; done)), H', ⟨by first | omega | exact Nat.le_refl _⟩, by repeat (first | exact Drawn0.refl _ | apply Drawn0.step)⟩
            · rw [if_neg c9] at H
              have c9b0 : decide ((IntKind.u64.wrap (Int.tdiv (4294967296 : Int) a0)) < a1) = false := decide_eq_false c9
              clear c9
              have H' := Aside0.mk H
              clear H
              go_wp2
              go_meet
              case rel => exact ⟨_, (!t119), (by first | rfl | (simp; done) | (simp [*]; done)), H', ⟨by first | omega | exact Nat.le_refl _⟩, by repeat (first | exact Drawn0.refl _ | apply Drawn0.step)⟩
  case rest =>
    clear HC4
    try clear c2
    try clear p2
    try clear c3
    try clear c5
    try clear c5b0
    try clear c6
    try clear c6b0
    try clear c7
    try clear c7b0
    try clear c8
    try clear c8b0
    try clear c8b1
    try clear c9
    try clear c9b0
    obtain ⟨kq, x35_3, rfl, HA, HJ3, ⟨mc3, rfl⟩⟩ := hcut
    cases kq with
    | zero => exact absurd HA.out (by simp [bitloftlaw23_CostLogs.j0])
    | succ kj3 =>
      have H := HA.out
      clear HA
      simp only [bitloftlaw23_CostLogs.j0] at H
      by_cases c10 : x35_3 = true
      · subst c10
        have H1 : (some t119) = some r := by rw [if_pos rfl] at H; exact H
        clear H
        have H := H1
        clear H1
        obtain rfl := Option.some.inj H
        go_wp2
        go_ret
        exact ⟨by first | rfl | (simp; done) | (simp [*]; done), by repeat (first | exact Drawn0.refl _ | apply Drawn0.step)⟩
      · replace c10 := Bool.eq_false_iff.mpr c10
        subst c10
        have H1 : ((cost_Log.f kj3 a0).bind fun bt120 => ((cost_Log.f kj3 a1).bind fun bt122 => ((cost_Log.f kj3 (IntKind.u64.wrap (a0 * a1))).bind fun bt124 => (if bt120.2 = 0 then (if bt122.2 = 0 then (if bt124.2 = 0 then (if bt120.1 > bt122.1 then (bitloftlaw23_CostLogs.j1 kj3 a1 t119 bt122.1 true) else (if bt124.1 > (wrap64 ((wrap64 (bt120.1 + bt122.1)) + 3)) then (bitloftlaw23_CostLogs.j1 kj3 a1 t119 bt122.1 true) else (bitloftlaw23_CostLogs.j1 kj3 a1 t119 bt122.1 (decide (bt124.1 < (wrap64 ((wrap64 (bt120.1 + bt122.1)) - 1))))))) else (bitloftlaw23_CostLogs.j1 kj3 a1 t119 bt122.1 true)) else (bitloftlaw23_CostLogs.j1 kj3 a1 t119 bt122.1 true)) else (bitloftlaw23_CostLogs.j1 kj3 a1 t119 bt122.1 true))))) = some r := by rw [if_neg (show ¬ (false = true) by decide)] at H; exact H
        clear H
        have H := H1
        clear H1
        replace H := Option.bind_eq_some_iff.mp H
        obtain ⟨⟨t120, t121⟩, A110, H⟩ := H
        replace H : ((cost_Log.f kj3 a1).bind fun bt122 => ((cost_Log.f kj3 (IntKind.u64.wrap (a0 * a1))).bind fun bt124 => (if t121 = 0 then (if bt122.2 = 0 then (if bt124.2 = 0 then (if t120 > bt122.1 then (bitloftlaw23_CostLogs.j1 kj3 a1 t119 bt122.1 true) else (if bt124.1 > (wrap64 ((wrap64 (t120 + bt122.1)) + 3)) then (bitloftlaw23_CostLogs.j1 kj3 a1 t119 bt122.1 true) else (bitloftlaw23_CostLogs.j1 kj3 a1 t119 bt122.1 (decide (bt124.1 < (wrap64 ((wrap64 (t120 + bt122.1)) - 1))))))) else (bitloftlaw23_CostLogs.j1 kj3 a1 t119 bt122.1 true)) else (bitloftlaw23_CostLogs.j1 kj3 a1 t119 bt122.1 true)) else (bitloftlaw23_CostLogs.j1 kj3 a1 t119 bt122.1 true)))) = some r := H
        have A11 := Aside0.mk A110
        clear A110
        replace H := Option.bind_eq_some_iff.mp H
        obtain ⟨⟨t122, t123⟩, A120, H⟩ := H
        replace H : ((cost_Log.f kj3 (IntKind.u64.wrap (a0 * a1))).bind fun bt124 => (if t121 = 0 then (if t123 = 0 then (if bt124.2 = 0 then (if t120 > t122 then (bitloftlaw23_CostLogs.j1 kj3 a1 t119 t122 true) else (if bt124.1 > (wrap64 ((wrap64 (t120 + t122)) + 3)) then (bitloftlaw23_CostLogs.j1 kj3 a1 t119 t122 true) else (bitloftlaw23_CostLogs.j1 kj3 a1 t119 t122 (decide (bt124.1 < (wrap64 ((wrap64 (t120 + t122)) - 1))))))) else (bitloftlaw23_CostLogs.j1 kj3 a1 t119 t122 true)) else (bitloftlaw23_CostLogs.j1 kj3 a1 t119 t122 true)) else (bitloftlaw23_CostLogs.j1 kj3 a1 t119 t122 true))) = some r := H
        have A12 := Aside0.mk A120
        clear A120
        replace H := Option.bind_eq_some_iff.mp H
        obtain ⟨⟨t124, t125⟩, A130, H⟩ := H
        replace H : (if t121 = 0 then (if t123 = 0 then (if t125 = 0 then (if t120 > t122 then (bitloftlaw23_CostLogs.j1 kj3 a1 t119 t122 true) else (if t124 > (wrap64 ((wrap64 (t120 + t122)) + 3)) then (bitloftlaw23_CostLogs.j1 kj3 a1 t119 t122 true) else (bitloftlaw23_CostLogs.j1 kj3 a1 t119 t122 (decide (t124 < (wrap64 ((wrap64 (t120 + t122)) - 1))))))) else (bitloftlaw23_CostLogs.j1 kj3 a1 t119 t122 true)) else (bitloftlaw23_CostLogs.j1 kj3 a1 t119 t122 true)) else (bitloftlaw23_CostLogs.j1 kj3 a1 t119 t122 true)) = some r := H
        have A13 := Aside0.mk A130
        clear A130
        have HC14 := Aside0.mk H
        clear H
        go_upto_region 7 with (first | ((with_reducible refine gate_callee (f := 23) rfl ?_); refine goesL_ (some 39) rfl rfl Try.func23 (by kernel_rfl) rfl #[.int .u64 a0] rfl (by (try simp only [List.map_toArray, List.map_cons, List.map_nil]); first | done | rfl | (simp only [List.length_drop, List.length_take]; rfl)) ?_; (with_reducible refine (cost_Log.calls kj3 a0 t120 t121 _ A11.out).mono ?_); rintro e w' ⟨rfl, ⟨nd, rfl⟩⟩; refine ⟨_, rfl, ?_⟩) | ((with_reducible refine gate_callee (f := 23) rfl ?_); refine goesL_ (some 44) rfl rfl Try.func23 (by kernel_rfl) rfl #[.int .u64 a1] rfl (by (try simp only [List.map_toArray, List.map_cons, List.map_nil]); first | done | rfl | (simp only [List.length_drop, List.length_take]; rfl)) ?_; (with_reducible refine (cost_Log.calls kj3 a1 t122 t123 _ A12.out).mono ?_); rintro e w' ⟨rfl, ⟨nd, rfl⟩⟩; refine ⟨_, rfl, ?_⟩) | ((with_reducible refine gate_callee (f := 23) rfl ?_); refine goesL_ (some 51) rfl rfl Try.func23 (by kernel_rfl) rfl #[.int .u64 (IntKind.u64.wrap (a0 * a1))] rfl (by (try simp only [List.map_toArray, List.map_cons, List.map_nil]); first | done | rfl | (simp only [List.length_drop, List.length_take]; rfl)) ?_; (with_reducible refine (cost_Log.calls kj3 (IntKind.u64.wrap (a0 * a1)) t124 t125 _ A13.out).mono ?_); rintro e w' ⟨rfl, ⟨nd, rfl⟩⟩; refine ⟨_, rfl, ?_⟩))
        (try simp only [Act.put, List.setIfInBounds_toArray, List.set_cons_zero, List.set_cons_succ])
        go_cut [84] (fun v84 wc => ∃ (kq : Nat) (x84_13 : Bool), v84 = .bool x84_13 ∧ Aside0 (bitloftlaw23_CostLogs.j1 kq a1 t119 t122 x84_13 = some r) ∧ Aside0 (kq ≤ kj3) ∧ Drawn0 w wc)
        case first =>
          have H := HC14.out
          clear HC14
          by_cases c15 : t121 = 0
          · rw [if_pos c15] at H
            have c15b0 : (t121 == 0) = true := beq_iff_eq.mpr c15
            have c15b1 : (t121 != 0) = false := bne_eq_false_iff_eq.mpr c15
            clear c15
            (first | rw [c15b0] | (simp only [i64_w, i32_w]; rw [c15b0]) | skip)
            by_cases c16 : t123 = 0
            · rw [if_pos c16] at H
              have c16b0 : (t123 == 0) = true := beq_iff_eq.mpr c16
              have c16b1 : (t123 != 0) = false := bne_eq_false_iff_eq.mpr c16
              clear c16
              by_cases c17 : t125 = 0
              · rw [if_pos c17] at H
                have c17b0 : (t125 == 0) = true := beq_iff_eq.mpr c17
                have c17b1 : (t125 != 0) = false := bne_eq_false_iff_eq.mpr c17
                clear c17
                by_cases c18 : t120 > t122
                · rw [if_pos c18] at H
                  have c18b0 : decide (t122 < t120) = true := decide_eq_true c18
                  clear c18
                  have H' := Aside0.mk H
                  clear H
                  go_wp2
                  go_meet
                  case rel => exact ⟨_, (true), (by first | rfl | (simp; done) | (simp [*]; done)), H', ⟨by have := HJ3.out; first | omega | exact Nat.le_refl _⟩, by repeat (first | exact Drawn0.refl _ | apply Drawn0.step)⟩
                · rw [if_neg c18] at H
                  have c18b0 : decide (t122 < t120) = false := decide_eq_false c18
                  clear c18
                  by_cases c19 : t124 > (wrap64 ((wrap64 (t120 + t122)) + 3))
                  · rw [if_pos c19] at H
                    have c19b0 : decide ((wrap64 ((wrap64 (t120 + t122)) + 3)) < t124) = true := decide_eq_true c19
                    clear c19
                    have H' := Aside0.mk H
                    clear H
                    go_wp2
                    go_meet
                    case rel => exact ⟨_, (true), (by first | rfl | (simp; done) | (simp [*]; done)), H', ⟨by have := HJ3.out; first | omega | exact Nat.le_refl _⟩, by repeat (first | exact Drawn0.refl _ | apply Drawn0.step)⟩
                  · rw [if_neg c19] at H
                    have c19b0 : decide ((wrap64 ((wrap64 (t120 + t122)) + 3)) < t124) = false := decide_eq_false c19
                    clear c19
                    have H' := Aside0.mk H
                    clear H
                    go_wp2
                    go_meet
                    case rel => exact ⟨_, (decide (t124 < (wrap64 ((wrap64 (t120 + t122)) - 1)))), (by first | rfl | (simp; done) | (simp [*]; done)), H', ⟨by have := HJ3.out; first | omega | exact Nat.le_refl _⟩, by repeat (first | exact Drawn0.refl _ | apply Drawn0.step)⟩
              · rw [if_neg c17] at H
                have c17b0 : (t125 == 0) = false := beq_eq_false_iff_ne.mpr c17
                have c17b1 : (t125 != 0) = true := bne_iff_ne.mpr c17
                have H' := Aside0.mk H
                clear H
                go_wp2
                go_meet
                case rel => exact ⟨_, (true), (by first | rfl | (simp; done) | (simp [*]; done)), H', ⟨by have := HJ3.out; first | omega | exact Nat.le_refl _⟩, by repeat (first | exact Drawn0.refl _ | apply Drawn0.step)⟩
            · rw [if_neg c16] at H
              have c16b0 : (t123 == 0) = false := beq_eq_false_iff_ne.mpr c16
              have c16b1 : (t123 != 0) = true := bne_iff_ne.mpr c16
              have H' := Aside0.mk H
              clear H
              go_wp2
              go_meet
              case rel => exact ⟨_, (true), (by first | rfl | (simp; done) | (simp [*]; done)), H', ⟨by have := HJ3.out; first | omega | exact Nat.le_refl _⟩, by repeat (first | exact Drawn0.refl _ | apply Drawn0.step)⟩
          · rw [if_neg c15] at H
            have c15b0 : (t121 == 0) = false := beq_eq_false_iff_ne.mpr c15
            have c15b1 : (t121 != 0) = true := bne_iff_ne.mpr c15
            (first | rw [c15b0] | (simp only [i64_w, i32_w]; rw [c15b0]) | skip)
            have H' := Aside0.mk H
            clear H
            go_wp2
            go_meet
            case rel => exact ⟨_, (true), (by first | rfl | (simp; done) | (simp [*]; done)), H', ⟨by have := HJ3.out; first | omega | exact Nat.le_refl _⟩, by repeat (first | exact Drawn0.refl _ | apply Drawn0.step)⟩
        case rest =>
          clear HC14
          try clear c1
          try clear c2
          try clear p2
          try clear c3
          try clear c5
          try clear c5b0
          try clear c6
          try clear c6b0
          try clear p6
          try clear c7
          try clear c7b0
          try clear c8
          try clear c8b0
          try clear c8b1
          try clear c9
          try clear c9b0
          try clear c10
          try clear c15
          try clear c15b0
          try clear c15b1
          try clear c16
          try clear c16b0
          try clear c16b1
          try clear c17
          try clear c17b0
          try clear c17b1
          try clear c18
          try clear c18b0
          try clear c19
          try clear c19b0
          try clear p2
          obtain ⟨kq, x84_13, rfl, HA, HJ13, ⟨mc13, rfl⟩⟩ := hcut
          cases kq with
          | zero => exact absurd HA.out (by simp [bitloftlaw23_CostLogs.j1])
          | succ kj13 =>
            have H := HA.out
            clear HA
            simp only [bitloftlaw23_CostLogs.j1] at H
            by_cases c20 : x84_13 = true
            · subst c20
              have H1 : (some false) = some r := by rw [if_pos rfl] at H; exact H
              clear H
              have H := H1
              clear H1
              obtain rfl := Option.some.inj H
              go_wp2
              go_ret
              exact ⟨by first | rfl | (simp; done) | (simp [*]; done), by repeat (first | exact Drawn0.refl _ | apply Drawn0.step)⟩
            · replace c20 := Bool.eq_false_iff.mpr c20
              subst c20
              have H1 : (if (IntKind.u64.wrap (2 * a1)) > 4294967296 then (some t119) else ((cost_Log.f kj13 (IntKind.u64.wrap (2 * a1))).bind fun bt126 => (if t119 = true then (if bt126.2 = 0 then (some (bt126.1 == (wrap64 (t122 + 65536)))) else (some false)) else (some false)))) = some r := by rw [if_neg (show ¬ (false = true) by decide)] at H; exact H
              clear H
              have H := H1
              clear H1
              by_cases c21 : (IntKind.u64.wrap (2 * a1)) > 4294967296
              · rw [if_pos c21] at H
                have c21b0 : decide (4294967296 < (IntKind.u64.wrap (2 * a1))) = true := decide_eq_true c21
                clear c21
                obtain rfl := Option.some.inj H
                go_wp2
                go_ret
                exact ⟨by first | rfl | (simp; done) | (simp [*]; done), by repeat (first | exact Drawn0.refl _ | apply Drawn0.step)⟩
              · rw [if_neg c21] at H
                have c21b0 : decide (4294967296 < (IntKind.u64.wrap (2 * a1))) = false := decide_eq_false c21
                clear c21
                replace H := Option.bind_eq_some_iff.mp H
                obtain ⟨⟨t126, t127⟩, A220, H⟩ := H
                replace H : (if t119 = true then (if t127 = 0 then (some (t126 == (wrap64 (t122 + 65536)))) else (some false)) else (some false)) = some r := H
                have A22 := Aside0.mk A220
                clear A220
                by_cases c23 : t119 = true
                · subst c23
                  have H1 : (if t127 = 0 then (some (t126 == (wrap64 (t122 + 65536)))) else (some false)) = some r := by rw [if_pos rfl] at H; exact H
                  clear H
                  have H := H1
                  clear H1
                  by_cases c24 : t127 = 0
                  · rw [if_pos c24] at H
                    have c24b0 : (t127 == 0) = true := beq_iff_eq.mpr c24
                    have c24b1 : (t127 != 0) = false := bne_eq_false_iff_eq.mpr c24
                    clear c24
                    obtain rfl := Option.some.inj H
                    go_wp2_with (first | ((with_reducible refine gate_callee (f := 23) rfl ?_); refine goesL_ (some 92) rfl rfl Try.func23 (by kernel_rfl) rfl #[.int .u64 (IntKind.u64.wrap (2 * a1))] rfl (by (try simp only [List.map_toArray, List.map_cons, List.map_nil]); first | done | rfl | (simp only [List.length_drop, List.length_take]; rfl)) ?_; (with_reducible refine (cost_Log.calls kj13 (IntKind.u64.wrap (2 * a1)) t126 t127 _ A22.out).mono ?_); rintro e w' ⟨rfl, ⟨nd, rfl⟩⟩; refine ⟨_, rfl, ?_⟩))
                    go_ret
                    exact ⟨by first | rfl | (simp; done) | (simp [*]; done), by repeat (first | exact Drawn0.refl _ | apply Drawn0.step)⟩
                  · rw [if_neg c24] at H
                    have c24b0 : (t127 == 0) = false := beq_eq_false_iff_ne.mpr c24
                    have c24b1 : (t127 != 0) = true := bne_iff_ne.mpr c24
                    obtain rfl := Option.some.inj H
                    go_wp2_with (first | ((with_reducible refine gate_callee (f := 23) rfl ?_); refine goesL_ (some 92) rfl rfl Try.func23 (by kernel_rfl) rfl #[.int .u64 (IntKind.u64.wrap (2 * a1))] rfl (by (try simp only [List.map_toArray, List.map_cons, List.map_nil]); first | done | rfl | (simp only [List.length_drop, List.length_take]; rfl)) ?_; (with_reducible refine (cost_Log.calls kj13 (IntKind.u64.wrap (2 * a1)) t126 t127 _ A22.out).mono ?_); rintro e w' ⟨rfl, ⟨nd, rfl⟩⟩; refine ⟨_, rfl, ?_⟩))
                    go_ret
                    exact ⟨by first | rfl | (simp; done) | (simp [*]; done), by repeat (first | exact Drawn0.refl _ | apply Drawn0.step)⟩
                · replace c23 := Bool.eq_false_iff.mpr c23
                  subst c23
                  have H1 : (some false) = some r := by rw [if_neg (show ¬ (false = true) by decide)] at H; exact H
                  clear H
                  have H := H1
                  clear H1
                  obtain rfl := Option.some.inj H
                  go_wp2_with (first | ((with_reducible refine gate_callee (f := 23) rfl ?_); refine goesL_ (some 92) rfl rfl Try.func23 (by kernel_rfl) rfl #[.int .u64 (IntKind.u64.wrap (2 * a1))] rfl (by (try simp only [List.map_toArray, List.map_cons, List.map_nil]); first | done | rfl | (simp only [List.length_drop, List.length_take]; rfl)) ?_; (with_reducible refine (cost_Log.calls kj13 (IntKind.u64.wrap (2 * a1)) t126 t127 _ A22.out).mono ?_); rintro e w' ⟨rfl, ⟨nd, rfl⟩⟩; refine ⟨_, rfl, ?_⟩))
                  go_ret
                  exact ⟨by first | rfl | (simp; done) | (simp [*]; done), by repeat (first | exact Drawn0.refl _ | apply Drawn0.step)⟩

/-- THE ONE PURE STATEMENT of bitloftlaw23_CostLogs: yours. -/
def bitloftlaw23_CostLogs.Pure : Prop := ∀ (a0 : Int) (a1 : Int), (Lit.int .u64 a0).wf = true → (Lit.int .u64 a1).wf = true → ∃ k, bitloftlaw23_CostLogs.f k a0 a1 = some true
theorem bitloftlaw23_CostLogs.walk (P : bitloftlaw23_CostLogs.Pure) (a0 : Int) (a1 : Int) (w : World) (w0 : (Lit.int .u64 a0).wf = true) (w1 : (Lit.int .u64 a1).wf = true) :
    Calls Try.prog 3 #[.int .u64 a0, .int .u64 a1] w fun e w' => e = .returned (.bool true) ∧ Below w.heap.size w w' := by
  obtain ⟨k, h⟩ := P a0 a1 w0 w1
  refine (bitloftlaw23_CostLogs.calls k a0 a1 true w h).mono ?_
  rintro e w' ⟨rfl, hd⟩
  exact ⟨rfl, hd.below⟩

/-! ### bitloftref23_Logarithm: function 68 -/
mutual
def bitloftref23_Logarithm.j1 : Nat → Int → Int → Option (Int)
  | 0, _, _ => none
  | k + 1, x0, x3 => bitloftref23_Logarithm.l1 k x0 x3 x0 x3
def bitloftref23_Logarithm.l1 : Nat → Int → Int → Int → Int → Option (Int)
  | 0, _, _, _, _ => none
  | k + 1, x0, x3, x4, x5 => if x5 < 31 then (bitloftref23_Logarithm.l1 k x0 x3 (IntKind.u64.wrap (x4 * 2)) (wrap64 (x5 + 1))) else (if x3 = 32 then (bitloftref23_Logarithm.j3 k x3 (IntKind.u64.wrap (Int.tdiv x0 2))) else (bitloftref23_Logarithm.j3 k x3 x4))
def bitloftref23_Logarithm.j3 : Nat → Int → Int → Option (Int)
  | 0, _, _ => none
  | k + 1, x3, x4 => bitloftref23_Logarithm.l2 k x4 (wrap64 (x3 * 65536)) 32768
def bitloftref23_Logarithm.l2 : Nat → Int → Int → Int → Option (Int)
  | 0, _, _, _ => none
  | k + 1, x4, x6, x7 => if x7 > 0 then (if (IntKind.u64.wrap (Int.tdiv (IntKind.u64.wrap (x4 * x4)) 2147483648)) ≥ 4294967296 then (bitloftref23_Logarithm.l2 k (IntKind.u64.wrap (Int.tdiv (IntKind.u64.wrap (Int.tdiv (IntKind.u64.wrap (x4 * x4)) 2147483648)) 2)) (wrap64 (x6 + x7)) (wrap64 (Int.tdiv x7 2))) else (bitloftref23_Logarithm.l2 k (IntKind.u64.wrap (Int.tdiv (IntKind.u64.wrap (x4 * x4)) 2147483648)) x6 (wrap64 (Int.tdiv x7 2)))) else (some x6)
def bitloftref23_Logarithm.l0 : Nat → Int → Int → Option (Int)
  | 0, _, _ => none
  | k + 1, x0, x3 => if x3 < 32 then (if 0 ≤ (wrap64 (x3 + 1)) then (if (shl .u64 1 (wrap64 (x3 + 1))) ≤ x0 then (bitloftref23_Logarithm.l0 k x0 (wrap64 (x3 + 1))) else (bitloftref23_Logarithm.j1 k x0 x3)) else (none)) else (bitloftref23_Logarithm.j1 k x0 x3)
end
def bitloftref23_Logarithm.f (k : Nat) (a0 : Int) : Option (Int) := bitloftref23_Logarithm.l0 k a0 0
theorem bitloftref23_Logarithm.mono_l : ∀ k, (∀ y0 y1, LeO (bitloftref23_Logarithm.j1 k y0 y1) (bitloftref23_Logarithm.j1 (k + 1) y0 y1)) ∧ (∀ y0 y1 y2 y3, LeO (bitloftref23_Logarithm.l1 k y0 y1 y2 y3) (bitloftref23_Logarithm.l1 (k + 1) y0 y1 y2 y3)) ∧ (∀ y0 y1, LeO (bitloftref23_Logarithm.j3 k y0 y1) (bitloftref23_Logarithm.j3 (k + 1) y0 y1)) ∧ (∀ y0 y1 y2, LeO (bitloftref23_Logarithm.l2 k y0 y1 y2) (bitloftref23_Logarithm.l2 (k + 1) y0 y1 y2)) ∧ (∀ y0 y1, LeO (bitloftref23_Logarithm.l0 k y0 y1) (bitloftref23_Logarithm.l0 (k + 1) y0 y1))
  | 0 => ⟨fun _ _ r h => by simp [bitloftref23_Logarithm.j1] at h, fun _ _ _ _ r h => by simp [bitloftref23_Logarithm.l1] at h, fun _ _ r h => by simp [bitloftref23_Logarithm.j3] at h, fun _ _ _ r h => by simp [bitloftref23_Logarithm.l2] at h, fun _ _ r h => by simp [bitloftref23_Logarithm.l0] at h⟩
  | k + 1 => by
    obtain ⟨ih0, ih1, ih2, ih3, ih4⟩ := bitloftref23_Logarithm.mono_l k
    refine ⟨?_, ?_, ?_, ?_, ?_⟩
    · intro y0 y1
      unfold bitloftref23_Logarithm.j1
      repeat' first
      | (with_reducible exact ih0 _ _)
      | (with_reducible exact ih1 _ _ _ _)
      | (with_reducible exact ih2 _ _)
      | (with_reducible exact ih3 _ _ _)
      | (with_reducible exact ih4 _ _)
      | (with_reducible exact LeO.refl _)
      | (with_reducible exact LeO.none _)
      | (with_reducible refine LeO.ite ?_ ?_)
      | (with_reducible refine LeO.bind ?_ (fun _ => ?_))
      | exact ih0 _ _
      | exact ih1 _ _ _ _
      | exact ih2 _ _
      | exact ih3 _ _ _
      | exact ih4 _ _
      | exact LeO.none _
      | refine LeO.ite ?_ ?_
      | refine LeO.bind ?_ (fun _ => ?_)
    · intro y0 y1 y2 y3
      unfold bitloftref23_Logarithm.l1
      repeat' first
      | (with_reducible exact ih0 _ _)
      | (with_reducible exact ih1 _ _ _ _)
      | (with_reducible exact ih2 _ _)
      | (with_reducible exact ih3 _ _ _)
      | (with_reducible exact ih4 _ _)
      | (with_reducible exact LeO.refl _)
      | (with_reducible exact LeO.none _)
      | (with_reducible refine LeO.ite ?_ ?_)
      | (with_reducible refine LeO.bind ?_ (fun _ => ?_))
      | exact ih0 _ _
      | exact ih1 _ _ _ _
      | exact ih2 _ _
      | exact ih3 _ _ _
      | exact ih4 _ _
      | exact LeO.none _
      | refine LeO.ite ?_ ?_
      | refine LeO.bind ?_ (fun _ => ?_)
    · intro y0 y1
      unfold bitloftref23_Logarithm.j3
      repeat' first
      | (with_reducible exact ih0 _ _)
      | (with_reducible exact ih1 _ _ _ _)
      | (with_reducible exact ih2 _ _)
      | (with_reducible exact ih3 _ _ _)
      | (with_reducible exact ih4 _ _)
      | (with_reducible exact LeO.refl _)
      | (with_reducible exact LeO.none _)
      | (with_reducible refine LeO.ite ?_ ?_)
      | (with_reducible refine LeO.bind ?_ (fun _ => ?_))
      | exact ih0 _ _
      | exact ih1 _ _ _ _
      | exact ih2 _ _
      | exact ih3 _ _ _
      | exact ih4 _ _
      | exact LeO.none _
      | refine LeO.ite ?_ ?_
      | refine LeO.bind ?_ (fun _ => ?_)
    · intro y0 y1 y2
      unfold bitloftref23_Logarithm.l2
      repeat' first
      | (with_reducible exact ih0 _ _)
      | (with_reducible exact ih1 _ _ _ _)
      | (with_reducible exact ih2 _ _)
      | (with_reducible exact ih3 _ _ _)
      | (with_reducible exact ih4 _ _)
      | (with_reducible exact LeO.refl _)
      | (with_reducible exact LeO.none _)
      | (with_reducible refine LeO.ite ?_ ?_)
      | (with_reducible refine LeO.bind ?_ (fun _ => ?_))
      | exact ih0 _ _
      | exact ih1 _ _ _ _
      | exact ih2 _ _
      | exact ih3 _ _ _
      | exact ih4 _ _
      | exact LeO.none _
      | refine LeO.ite ?_ ?_
      | refine LeO.bind ?_ (fun _ => ?_)
    · intro y0 y1
      unfold bitloftref23_Logarithm.l0
      repeat' first
      | (with_reducible exact ih0 _ _)
      | (with_reducible exact ih1 _ _ _ _)
      | (with_reducible exact ih2 _ _)
      | (with_reducible exact ih3 _ _ _)
      | (with_reducible exact ih4 _ _)
      | (with_reducible exact LeO.refl _)
      | (with_reducible exact LeO.none _)
      | (with_reducible refine LeO.ite ?_ ?_)
      | (with_reducible refine LeO.bind ?_ (fun _ => ?_))
      | exact ih0 _ _
      | exact ih1 _ _ _ _
      | exact ih2 _ _
      | exact ih3 _ _ _
      | exact ih4 _ _
      | exact LeO.none _
      | refine LeO.ite ?_ ?_
      | refine LeO.bind ?_ (fun _ => ?_)
theorem bitloftref23_Logarithm.mono : ∀ a0 k, LeO (bitloftref23_Logarithm.f k a0) (bitloftref23_Logarithm.f (k + 1) a0) := by
  intro a0 k
  obtain ⟨ih0, ih1, ih2, ih3, ih4⟩ := bitloftref23_Logarithm.mono_l k
  unfold bitloftref23_Logarithm.f
  repeat' first
      | (with_reducible exact ih0 _ _)
      | (with_reducible exact ih1 _ _ _ _)
      | (with_reducible exact ih2 _ _)
      | (with_reducible exact ih3 _ _ _)
      | (with_reducible exact ih4 _ _)
      | (with_reducible exact LeO.refl _)
      | (with_reducible exact LeO.none _)
      | (with_reducible refine LeO.ite ?_ ?_)
      | (with_reducible refine LeO.bind ?_ (fun _ => ?_))
      | exact ih0 _ _
      | exact ih1 _ _ _ _
      | exact ih2 _ _
      | exact ih3 _ _ _
      | exact ih4 _ _
      | exact LeO.none _
      | refine LeO.ite ?_ ?_
      | refine LeO.bind ?_ (fun _ => ?_)
set_option maxHeartbeats 8000000 in
set_option maxRecDepth 100000 in
theorem bitloftref23_Logarithm.calls (k : Nat) (a0 : Int) (r : Int) (w : World) (h : bitloftref23_Logarithm.f k a0 = some r) :
    Calls Try.prog 68 #[.int .u64 a0] w fun e w' => e = .returned (.int .i64 r) ∧ Drawn0 w w' := by
  have H : (bitloftref23_Logarithm.l0 k a0 0) = some r := h
  clear h
  have HC2 := Aside0.mk H
  clear H
  go_enter Try.func68, Try.ntmps68
  go_upto_block 0 with (fail)
  go_cut [3] (fun v3 wc => ∃ (kq : Nat) (x3_1 : Int), v3 = .int .i64 x3_1 ∧ Aside0 (bitloftref23_Logarithm.j1 kq a0 x3_1 = some r) ∧ Aside0 (kq ≤ k) ∧ Drawn0 w wc)
  case first =>
    have H := HC2.out
    clear HC2
    have H' := Aside0.mk H
    clear H
    go_wp2
    go_loopg [3] k (fun kq v3 w' => ∃ (x3_1 : Int), v3 = .int .i64 x3_1 ∧ Aside0 (bitloftref23_Logarithm.l0 kq a0 x3_1 = some r) ∧ Aside0 (kq ≤ k) ∧ Drawn0 w w')
    case atStart => exact ⟨(0), (by first | rfl | (simp; done) | (simp [*]; done)), H', ⟨Nat.le_refl _⟩, by repeat (first | exact Drawn0.refl _ | apply Drawn0.step)⟩
    case round =>
      clear H'
      try clear p2
      obtain ⟨x3_1, rfl, HA, HK1, ⟨m1, rfl⟩⟩ := hrel
      cases gk with
      | zero => exact absurd HA.out (by simp [bitloftref23_Logarithm.l0])
      | succ k1 =>
        have H := HA.out
        clear HA
        simp only [bitloftref23_Logarithm.l0] at H
        by_cases c3 : x3_1 < 32
        · rw [if_pos c3] at H
          have c3b0 : decide (x3_1 < 32) = true := decide_eq_true c3
          clear c3
          (first | rw [c3b0] | (simp only [i64_w, i32_w]; rw [c3b0]) | skip)
          obtain ⟨ji4, hji4⟩ : ∃ j_ : Int, (wrap64 (x3_1 + 1)) = j_ := ⟨_, rfl⟩
          replace H : (if 0 ≤ (ji4) then (if (shl .u64 1 (ji4)) ≤ a0 then (bitloftref23_Logarithm.l0 k1 a0 ji4) else (bitloftref23_Logarithm.j1 k1 a0 x3_1)) else (none)) = some r := by first | (rw [hji4] at H; exact H) | (simp only [hji4] at H ⊢; exact H)
          have hji4w : (IntKind.i64.wrap (x3_1 + 1)) = ji4 := (i64_w _).trans hji4
          by_cases c5 : 0 ≤ (ji4)
          · rw [if_pos c5] at H
            have c5b0 := eq_true c5
            have c5b1 : decide (0 ≤ (ji4)) = true := decide_eq_true c5
            clear c5
            obtain ⟨ji6, hji6⟩ : ∃ j_ : Int, (shl .u64 1 (ji4)) = j_ := ⟨_, rfl⟩
            replace H : (if (ji6) ≤ a0 then (bitloftref23_Logarithm.l0 k1 a0 ji4) else (bitloftref23_Logarithm.j1 k1 a0 x3_1)) = some r := by first | (rw [hji6] at H; exact H) | (simp only [hji6] at H ⊢; exact H)
            have hji6_ : (IntKind.u64.wrap (1 * 2 ^ min (ji4).toNat 64)) = ji6 := hji6
            have hji6z : (ji4) ≤ 64 → (IntKind.u64.wrap (1 * 2 ^ (ji4).toNat)) = ji6 := shl_small hji6
            have hji6u : (IntKind.u64.wrap (2 ^ min (ji4).toNat 64)) = ji6 := by have h_ := hji6_; rw [Int.one_mul] at h_; exact h_
            have hji6v : (ji4) ≤ 64 → (IntKind.u64.wrap (2 ^ (ji4).toNat)) = ji6 := fun hle_ => by have h_ := hji6z hle_; rw [Int.one_mul] at h_; exact h_
            by_cases c7 : (ji6) ≤ a0
            · rw [if_pos c7] at H
              have c7b0 : decide ((ji6) ≤ a0) = true := decide_eq_true c7
              clear c7
              have H' := Aside0.mk H
              clear H
              go_wp2
              go_roundg k1
              case measure => have := HK1.out; omega
              case rel => exact ⟨(ji4), (by first | rfl | (simp; done) | (simp only [← hji4] <;> (first | rfl | simp)) | (simp [*]; done)), H', ⟨by have := HK1.out; omega⟩, by repeat (first | exact Drawn0.refl _ | apply Drawn0.step)⟩
            · rw [if_neg c7] at H
              have c7b0 : decide ((ji6) ≤ a0) = false := decide_eq_false c7
              clear c7
              have H' := Aside0.mk H
              clear H
              go_wp2
              go_meet
              case rel => exact ⟨_, (x3_1), (by first | rfl | (simp; done) | (simp [*]; done)), H', ⟨by have := HK1.out; first | omega | exact Nat.le_refl _⟩, by repeat (first | exact Drawn0.refl _ | apply Drawn0.step)⟩
          · rw [if_neg c5] at H
            exact absurd H (by simp)
        · rw [if_neg c3] at H
          have c3b0 : decide (x3_1 < 32) = false := decide_eq_false c3
          clear c3
          (first | rw [c3b0] | (simp only [i64_w, i32_w]; rw [c3b0]) | skip)
          have H' := Aside0.mk H
          clear H
          go_wp2
          go_meet
          case rel => exact ⟨_, (x3_1), (by first | rfl | (simp; done) | (simp [*]; done)), H', ⟨by have := HK1.out; first | omega | exact Nat.le_refl _⟩, by repeat (first | exact Drawn0.refl _ | apply Drawn0.step)⟩
  case rest =>
    clear HC2
    try clear p2
    try clear c3
    try clear c3b0
    try clear c5
    try clear c5b0
    try clear c5b1
    try clear c6
    try clear p6
    try clear c7
    try clear c7b0
    try clear p2
    obtain ⟨kq, x3_1, rfl, HA, HJ1, ⟨mc1, rfl⟩⟩ := hcut
    cases kq with
    | zero => exact absurd HA.out (by simp [bitloftref23_Logarithm.j1])
    | succ kj1 =>
      have H := HA.out
      clear HA
      simp only [bitloftref23_Logarithm.j1] at H
      have H' := Aside0.mk H
      clear H
      go_wp2
      go_loopg [4, 5] kj1 (fun kq v4 v5 w' => ∃ (x4_2 : Int) (x5_2 : Int), v4 = .int .u64 x4_2 ∧ v5 = .int .i64 x5_2 ∧ Aside0 (bitloftref23_Logarithm.l1 kq a0 x3_1 x4_2 x5_2 = some r) ∧ Aside0 (kq ≤ kj1) ∧ Drawn0 w w')
      case atStart => exact ⟨(a0), (x3_1), (by first | rfl | (simp; done) | (simp [*]; done)), (by first | rfl | (simp; done) | (simp [*]; done)), H', ⟨Nat.le_refl _⟩, by repeat (first | exact Drawn0.refl _ | apply Drawn0.step)⟩
      case round =>
        clear H'
        try clear c1
        try clear p2
        try clear c3
        try clear c3b0
        try clear c5
        try clear c5b0
        try clear c5b1
        try clear c6
        try clear p6
        try clear c7
        try clear c7b0
        try clear p2
        try clear p6
        obtain ⟨x4_2, x5_2, rfl, rfl, HA, HK2, ⟨m2, rfl⟩⟩ := hrel
        cases gk with
        | zero => exact absurd HA.out (by simp [bitloftref23_Logarithm.l1])
        | succ k2 =>
          have H := HA.out
          clear HA
          simp only [bitloftref23_Logarithm.l1] at H
          by_cases c8 : x5_2 < 31
          · rw [if_pos c8] at H
            have c8b0 : decide (x5_2 < 31) = true := decide_eq_true c8
            clear c8
            have H' := Aside0.mk H
            clear H
            go_wp2
            go_roundg k2
            case measure => have := HJ1.out; have := HK2.out; omega
            case rel => exact ⟨(IntKind.u64.wrap (x4_2 * 2)), (wrap64 (x5_2 + 1)), (by first | rfl | (simp; done) | (simp [*]; done)), (by first | rfl | (simp; done) | (simp [*]; done)), H', ⟨by have := HJ1.out; have := HK2.out; omega⟩, by repeat (first | exact Drawn0.refl _ | apply Drawn0.step)⟩
          · rw [if_neg c8] at H
            have c8b0 : decide (x5_2 < 31) = false := decide_eq_false c8
            clear c8
            have HC9 := Aside0.mk H
            clear H
            go_upto_if 28 with (fail)
            go_cut [4] (fun v4 wc => ∃ (kq : Nat) (x4_8 : Int), v4 = .int .u64 x4_8 ∧ Aside0 (bitloftref23_Logarithm.j3 kq x3_1 x4_8 = some r) ∧ Aside0 (kq ≤ k2) ∧ Drawn0 w wc)
            case first =>
              have H := HC9.out
              clear HC9
              by_cases c10 : x3_1 = 32
              · rw [if_pos c10] at H
                have c10b0 : (x3_1 == 32) = true := beq_iff_eq.mpr c10
                have c10b1 : (x3_1 != 32) = false := bne_eq_false_iff_eq.mpr c10
                clear c10
                (first | rw [c10b0] | (simp only [i64_w, i32_w]; rw [c10b0]) | skip)
                have H' := Aside0.mk H
                clear H
                go_wp2
                go_meet
                case rel => exact ⟨_, (IntKind.u64.wrap (Int.tdiv a0 2)), (by first | rfl | (simp; done) | (simp [*]; done)), H', ⟨by have := HJ1.out; have := HK2.out; first | omega | exact Nat.le_refl _⟩, by repeat (first | exact Drawn0.refl _ | apply Drawn0.step)⟩
              · rw [if_neg c10] at H
                have c10b0 : (x3_1 == 32) = false := beq_eq_false_iff_ne.mpr c10
                have c10b1 : (x3_1 != 32) = true := bne_iff_ne.mpr c10
                (first | rw [c10b0] | (simp only [i64_w, i32_w]; rw [c10b0]) | skip)
                have H' := Aside0.mk H
                clear H
                go_wp2
                go_meet
                case rel => exact ⟨_, (x4_2), (by first | rfl | (simp; done) | (simp [*]; done)), H', ⟨by have := HJ1.out; have := HK2.out; first | omega | exact Nat.le_refl _⟩, by repeat (first | exact Drawn0.refl _ | apply Drawn0.step)⟩
            case rest =>
              clear HC9
              try clear c1
              try clear p2
              try clear c3
              try clear c3b0
              try clear c5
              try clear c5b0
              try clear c5b1
              try clear c6
              try clear p6
              try clear c7
              try clear c7b0
              try clear c8
              try clear c8b0
              try clear c10
              try clear c10b0
              try clear c10b1
              try clear p2
              try clear p6
              obtain ⟨kq, x4_8, rfl, HA, HJ8, ⟨mc8, rfl⟩⟩ := hcut
              cases kq with
              | zero => exact absurd HA.out (by simp [bitloftref23_Logarithm.j3])
              | succ kj8 =>
                have H := HA.out
                clear HA
                simp only [bitloftref23_Logarithm.j3] at H
                have H' := Aside0.mk H
                clear H
                go_wp2
                go_loopg [4, 6, 7] kj8 (fun kq v4 v6 v7 w' => ∃ (x4_4 : Int) (x6_4 : Int) (x7_4 : Int), v4 = .int .u64 x4_4 ∧ v6 = .int .i64 x6_4 ∧ v7 = .int .i64 x7_4 ∧ Aside0 (bitloftref23_Logarithm.l2 kq x4_4 x6_4 x7_4 = some r) ∧ Aside0 (kq ≤ kj8) ∧ Drawn0 w w')
                case atStart => exact ⟨(x4_8), (wrap64 (x3_1 * 65536)), (32768), (by first | rfl | (simp; done) | (simp [*]; done)), (by first | rfl | (simp; done) | (simp [*]; done)), (by first | rfl | (simp; done) | (simp [*]; done)), H', ⟨Nat.le_refl _⟩, by repeat (first | exact Drawn0.refl _ | apply Drawn0.step)⟩
                case round =>
                  clear H'
                  try clear c1
                  try clear p2
                  try clear c3
                  try clear c3b0
                  try clear c5
                  try clear c5b0
                  try clear c5b1
                  try clear c6
                  try clear p6
                  try clear c7
                  try clear c7b0
                  try clear c8
                  try clear c8b0
                  try clear c10
                  try clear c10b0
                  try clear c10b1
                  try clear p2
                  try clear p6
                  obtain ⟨x4_4, x6_4, x7_4, rfl, rfl, rfl, HA, HK4, ⟨m4, rfl⟩⟩ := hrel
                  cases gk with
                  | zero => exact absurd HA.out (by simp [bitloftref23_Logarithm.l2])
                  | succ k4 =>
                    have H := HA.out
                    clear HA
                    simp only [bitloftref23_Logarithm.l2] at H
                    by_cases c11 : x7_4 > 0
                    · rw [if_pos c11] at H
                      have c11b0 : decide (0 < x7_4) = true := decide_eq_true c11
                      clear c11
                      by_cases c12 : (IntKind.u64.wrap (Int.tdiv (IntKind.u64.wrap (x4_4 * x4_4)) 2147483648)) ≥ 4294967296
                      · rw [if_pos c12] at H
                        have c12b0 : decide (4294967296 ≤ (IntKind.u64.wrap (Int.tdiv (IntKind.u64.wrap (x4_4 * x4_4)) 2147483648))) = true := decide_eq_true c12
                        clear c12
                        have H' := Aside0.mk H
                        clear H
                        go_wp2
                        go_roundg k4
                        case measure => have := HJ1.out; have := HK2.out; have := HJ8.out; have := HK4.out; omega
                        case rel => exact ⟨(IntKind.u64.wrap (Int.tdiv (IntKind.u64.wrap (Int.tdiv (IntKind.u64.wrap (x4_4 * x4_4)) 2147483648)) 2)), (wrap64 (x6_4 + x7_4)), (wrap64 (Int.tdiv x7_4 2)), (by first | rfl | (simp; done) | (simp [*]; done)), (by first | rfl | (simp; done) | (simp [*]; done)), (by first | rfl | (simp; done) | (simp [*]; done)), H', ⟨by have := HJ1.out; have := HK2.out; have := HJ8.out; have := HK4.out; omega⟩, by repeat (first | exact Drawn0.refl _ | apply Drawn0.step)⟩
                      · rw [if_neg c12] at H
                        have c12b0 : decide (4294967296 ≤ (IntKind.u64.wrap (Int.tdiv (IntKind.u64.wrap (x4_4 * x4_4)) 2147483648))) = false := decide_eq_false c12
                        clear c12
                        have H' := Aside0.mk H
                        clear H
                        go_wp2
                        go_roundg k4
                        case measure => have := HJ1.out; have := HK2.out; have := HJ8.out; have := HK4.out; omega
                        case rel => exact ⟨(IntKind.u64.wrap (Int.tdiv (IntKind.u64.wrap (x4_4 * x4_4)) 2147483648)), (x6_4), (wrap64 (Int.tdiv x7_4 2)), (by first | rfl | (simp; done) | (simp [*]; done)), (by first | rfl | (simp; done) | (simp [*]; done)), (by first | rfl | (simp; done) | (simp [*]; done)), H', ⟨by have := HJ1.out; have := HK2.out; have := HJ8.out; have := HK4.out; omega⟩, by repeat (first | exact Drawn0.refl _ | apply Drawn0.step)⟩
                    · rw [if_neg c11] at H
                      have c11b0 : decide (0 < x7_4) = false := decide_eq_false c11
                      clear c11
                      obtain rfl := Option.some.inj H
                      go_wp2
                      go_ret
                      exact ⟨by first | rfl | (simp; done) | (simp [*]; done), by repeat (first | exact Drawn0.refl _ | apply Drawn0.step)⟩

/-! ### bitloftref23_Log: function 42 -/
def bitloftref23_Log.f (k : Nat) (a0 : Int) : Option (Int × Int) := if a0 < 1 then (some (0, 2)) else (if a0 > 4294967296 then (some (0, 2)) else ((bitloftref23_Logarithm.f k a0).bind fun t128 => (some (t128, 0))))
theorem bitloftref23_Log.mono : ∀ a0 k, LeO (bitloftref23_Log.f k a0) (bitloftref23_Log.f (k + 1) a0) := by
  intro a0 k
  unfold bitloftref23_Log.f
  repeat' first
      | (with_reducible exact bitloftref23_Logarithm.mono _ _)
      | (with_reducible exact LeO.refl _)
      | (with_reducible exact LeO.none _)
      | (with_reducible refine LeO.ite ?_ ?_)
      | (with_reducible refine LeO.bind ?_ (fun _ => ?_))
      | exact bitloftref23_Logarithm.mono _ _
      | exact LeO.none _
      | refine LeO.ite ?_ ?_
      | refine LeO.bind ?_ (fun _ => ?_)
set_option maxHeartbeats 8000000 in
set_option maxRecDepth 100000 in
theorem bitloftref23_Log.calls (k : Nat) (a0 : Int) (r1 : Int) (r2 : Int) (w : World) (h : bitloftref23_Log.f k a0 = some (r1, r2)) :
    Calls Try.prog 42 #[.int .u64 a0] w fun e w' => e = .returned (.tuple #[.int .i64 r1, .int .i64 r2]) ∧ Drawn0 w w' := by
  have H : (if a0 < 1 then (some (0, 2)) else (if a0 > 4294967296 then (some (0, 2)) else ((bitloftref23_Logarithm.f k a0).bind fun t128 => (some (t128, 0))))) = some (r1, r2) := h
  clear h
  by_cases c2 : a0 < 1
  · rw [if_pos c2] at H
    have c2b0 : decide (a0 < 1) = true := decide_eq_true c2
    clear c2
    simp only [Option.some.injEq, Prod.mk.injEq] at H
    obtain ⟨rfl, rfl⟩ := H
    go_enter Try.func42, Try.ntmps42
    go_wp2
    go_ret2
    exact ⟨by first | rfl | (simp; done) | (simp [*]; done), by repeat (first | exact Drawn0.refl _ | apply Drawn0.step)⟩
  · rw [if_neg c2] at H
    have c2b0 : decide (a0 < 1) = false := decide_eq_false c2
    clear c2
    by_cases c3 : a0 > 4294967296
    · rw [if_pos c3] at H
      have c3b0 : decide (4294967296 < a0) = true := decide_eq_true c3
      clear c3
      simp only [Option.some.injEq, Prod.mk.injEq] at H
      obtain ⟨rfl, rfl⟩ := H
      go_enter Try.func42, Try.ntmps42
      go_wp2
      go_ret2
      exact ⟨by first | rfl | (simp; done) | (simp [*]; done), by repeat (first | exact Drawn0.refl _ | apply Drawn0.step)⟩
    · rw [if_neg c3] at H
      have c3b0 : decide (4294967296 < a0) = false := decide_eq_false c3
      clear c3
      replace H := Option.bind_eq_some_iff.mp H
      obtain ⟨t128, A40, H⟩ := H
      replace H : (some (t128, 0)) = some (r1, r2) := H
      have A4 := Aside0.mk A40
      clear A40
      simp only [Option.some.injEq, Prod.mk.injEq] at H
      obtain ⟨rfl, rfl⟩ := H
      go_enter Try.func42, Try.ntmps42
      go_wp2_with (first | ((with_reducible refine gate_callee (f := 68) rfl ?_); refine goesL_ (some 11) rfl rfl Try.func68 (by kernel_rfl) rfl #[.int .u64 a0] rfl (by (try simp only [List.map_toArray, List.map_cons, List.map_nil]); first | done | rfl | (simp only [List.length_drop, List.length_take]; rfl)) ?_; (with_reducible refine (bitloftref23_Logarithm.calls k a0 t128 _ A4.out).mono ?_); rintro e w' ⟨rfl, ⟨nd, rfl⟩⟩; refine ⟨_, rfl, ?_⟩))
      go_ret2
      exact ⟨by first | rfl | (simp; done) | (simp [*]; done), by repeat (first | exact Drawn0.refl _ | apply Drawn0.step)⟩

/-! ### bitloftref23_Prob: function 47 -/
def bitloftref23_Prob.f (a0 : Int) : Option (Bool) := if a0 ≥ 1 then (some (decide (a0 ≤ 4095))) else (some false)
set_option maxHeartbeats 8000000 in
set_option maxRecDepth 100000 in
theorem bitloftref23_Prob.calls (a0 : Int) (r : Bool) (w : World) (h : bitloftref23_Prob.f a0 = some r) :
    Calls Try.prog 47 #[.int .i64 a0] w fun e w' => e = .returned (.bool r) ∧ Drawn0 w w' := by
  have H : (if a0 ≥ 1 then (some (decide (a0 ≤ 4095))) else (some false)) = some r := h
  clear h
  by_cases c2 : a0 ≥ 1
  · rw [if_pos c2] at H
    have c2b0 : decide (1 ≤ a0) = true := decide_eq_true c2
    clear c2
    obtain rfl := Option.some.inj H
    go_enter Try.func47, Try.ntmps47
    go_wp2
    go_ret
    exact ⟨by first | rfl | (simp; done) | (simp [*]; done), by repeat (first | exact Drawn0.refl _ | apply Drawn0.step)⟩
  · rw [if_neg c2] at H
    have c2b0 : decide (1 ≤ a0) = false := decide_eq_false c2
    clear c2
    obtain rfl := Option.some.inj H
    go_enter Try.func47, Try.ntmps47
    go_wp2
    go_ret
    exact ⟨by first | rfl | (simp; done) | (simp [*]; done), by repeat (first | exact Drawn0.refl _ | apply Drawn0.step)⟩

end Go.Proofs.Ytgapkifgddjijaa.QA
