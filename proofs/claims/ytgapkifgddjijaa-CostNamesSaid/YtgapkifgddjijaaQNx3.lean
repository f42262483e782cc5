-- Written by qprint.py (a program of this session) out of the translation's print. Not trusted: Lean checks it.
import Derived.Test.YtgapkifgddjijaaQNx0
import Derived.Test.YtgapkifgddjijaaQNx1
import Derived.Test.YtgapkifgddjijaaQNx2
namespace Go.Proofs.Ytgapkifgddjijaa.QN
open Go.RowKit Go.Proofs.YtgapkifgddjijaaW.PrintWords Go.Proofs.YtgapkifgddjijaaW.PrintLast Go.Proofs.YtgapkifgddjijaaW.PrintMore
attribute [local go_sem] max2_int min2_int max_two min_two max_three min_three max_four min_four   -- for this text's walks alone
set_option linter.unusedVariables false
set_option linter.unusedSimpArgs false

/-! ### bitloftref23_Logarithm: function 68 -/
mutual
def bitloftref23_Logarithm.j1 : Nat → Int → Int → Option (Int)
  | 0, _, _ => none
  | k + 1, x0, x3 => bitloftref23_Logarithm.l1 k x0 x3 x0 x3
def bitloftref23_Logarithm.l1 : Nat → Int → Int → Int → Int → Option (Int)
  | 0, _, _, _, _ => none
  | k + 1, x0, x3, x4, x5 => if x5 < 31 then (bitloftref23_Logarithm.l1 k x0 x3 (IntKind.u64.wrap (x4 * 2)) (wrap64 (x5 + 1))) else (if x3 = 32 then (bitloftref23_Logarithm.j3 k x3 (IntKind.u64.wrap (Int.tdiv x0 2))) else (bitloftref23_Logarithm.j3 k x3 x4))
def bitloftref23_Logarithm.j3 : Nat → Int → Int → Option (Int)
  | 0, _, _ => none
  | k + 1, x3, x4 => bitloftref23_Logarithm.l2 k x4 (wrap64 (x3 * 65536)) 32768
def bitloftref23_Logarithm.l2 : Nat → Int → Int → Int → Option (Int)
  | 0, _, _, _ => none
  | k + 1, x4, x6, x7 => if x7 > 0 then (if (IntKind.u64.wrap (Int.tdiv (IntKind.u64.wrap (x4 * x4)) 2147483648)) ≥ 4294967296 then (bitloftref23_Logarithm.l2 k (IntKind.u64.wrap (Int.tdiv (IntKind.u64.wrap (Int.tdiv (IntKind.u64.wrap (x4 * x4)) 2147483648)) 2)) (wrap64 (x6 + x7)) (wrap64 (Int.tdiv x7 2))) else (bitloftref23_Logarithm.l2 k (IntKind.u64.wrap (Int.tdiv (IntKind.u64.wrap (x4 * x4)) 2147483648)) x6 (wrap64 (Int.tdiv x7 2)))) else (some x6)
def bitloftref23_Logarithm.l0 : Nat → Int → Int → Option (Int)
  | 0, _, _ => none
  | k + 1, x0, x3 => if x3 < 32 then (if 0 ≤ (wrap64 (x3 + 1)) then (if (shl .u64 1 (wrap64 (x3 + 1))) ≤ x0 then (bitloftref23_Logarithm.l0 k x0 (wrap64 (x3 + 1))) else (bitloftref23_Logarithm.j1 k x0 x3)) else (none)) else (bitloftref23_Logarithm.j1 k x0 x3)
end
def bitloftref23_Logarithm.f (k : Nat) (a0 : Int) : Option (Int) := bitloftref23_Logarithm.l0 k a0 0
theorem bitloftref23_Logarithm.mono_l : ∀ k, (∀ y0 y1, LeO (bitloftref23_Logarithm.j1 k y0 y1) (bitloftref23_Logarithm.j1 (k + 1) y0 y1)) ∧ (∀ y0 y1 y2 y3, LeO (bitloftref23_Logarithm.l1 k y0 y1 y2 y3) (bitloftref23_Logarithm.l1 (k + 1) y0 y1 y2 y3)) ∧ (∀ y0 y1, LeO (bitloftref23_Logarithm.j3 k y0 y1) (bitloftref23_Logarithm.j3 (k + 1) y0 y1)) ∧ (∀ y0 y1 y2, LeO (bitloftref23_Logarithm.l2 k y0 y1 y2) (bitloftref23_Logarithm.l2 (k + 1) y0 y1 y2)) ∧ (∀ y0 y1, LeO (bitloftref23_Logarithm.l0 k y0 y1) (bitloftref23_Logarithm.l0 (k + 1) y0 y1))
  | 0 => ⟨fun _ _ r h => by simp [bitloftref23_Logarithm.j1] at h, fun _ _ _ _ r h => by simp [bitloftref23_Logarithm.l1] at h, fun _ _ r h => by simp [bitloftref23_Logarithm.j3] at h, fun _ _ _ r h => by simp [bitloftref23_Logarithm.l2] at h, fun _ _ r h => by simp [bitloftref23_Logarithm.l0] at h⟩
  | k + 1 => by
    obtain ⟨ih0, ih1, ih2, ih3, ih4⟩ := bitloftref23_Logarithm.mono_l k
    refine ⟨?_, ?_, ?_, ?_, ?_⟩
    · intro y0 y1
      unfold bitloftref23_Logarithm.j1
      repeat' first
      | (with_reducible exact ih0 _ _)
      | (with_reducible exact ih1 _ _ _ _)
      | (with_reducible exact ih2 _ _)
      | (with_reducible exact ih3 _ _ _)
      | (with_reducible exact ih4 _ _)
      | (with_reducible exact LeO.refl _)
      | (with_reducible exact LeO.none _)
      | (with_reducible refine LeO.ite ?_ ?_)
      | (with_reducible refine LeO.bind ?_ (fun _ => ?_))
      | exact ih0 _ _
      | exact ih1 _ _ _ _
      | exact ih2 _ _
      | exact ih3 _ _ _
      | exact ih4 _ _
      | exact LeO.none _
      | refine LeO.ite ?_ ?_
      | refine LeO.bind ?_ (fun _ => ?_)
    · intro y0 y1 y2 y3
      unfold bitloftref23_Logarithm.l1
      repeat' first
      | (with_reducible exact ih0 _ _)
      | (with_reducible exact ih1 _ _ _ _)
      | (with_reducible exact ih2 _ _)
      | (with_reducible exact ih3 _ _ _)
      | (with_reducible exact ih4 _ _)
      | (with_reducible exact LeO.refl _)
      | (with_reducible exact LeO.none _)
      | (with_reducible refine LeO.ite ?_ ?_)
      | (with_reducible refine LeO.bind ?_ (fun _ => ?_))
      | exact ih0 _ _
      | exact ih1 _ _ _ _
      | exact ih2 _ _
      | exact ih3 _ _ _
      | exact ih4 _ _
      | exact LeO.none _
      | refine LeO.ite ?_ ?_
      | refine LeO.bind ?_ (fun _ => ?_)
    · intro y0 y1
      unfold bitloftref23_Logarithm.j3
      repeat' first
      | (with_reducible exact ih0 _ _)
      | (with_reducible exact ih1 _ _ _ _)
      | (with_reducible exact ih2 _ _)
      | (with_reducible exact ih3 _ _ _)
      | (with_reducible exact ih4 _ _)
      | (with_reducible exact LeO.refl _)
      | (with_reducible exact LeO.none _)
      | (with_reducible refine LeO.ite ?_ ?_)
      | (with_reducible refine LeO.bind ?_ (fun _ => ?_))
      | exact ih0 _ _
      | exact ih1 _ _ _ _
      | exact ih2 _ _
      | exact ih3 _ _ _
      | exact ih4 _ _
      | exact LeO.none _
      | refine LeO.ite ?_ ?_
      | refine LeO.bind ?_ (fun _ => ?_)
    · intro y0 y1 y2
      unfold bitloftref23_Logarithm.l2
      repeat' first
      | (with_reducible exact ih0 _ _)
      | (with_reducible exact ih1 _ _ _ _)
      | (with_reducible exact ih2 _ _)
      | (with_reducible exact ih3 _ _ _)
      | (with_reducible exact ih4 _ _)
      | (with_reducible exact LeO.refl _)
      | (with_reducible exact LeO.none _)
      | (with_reducible refine LeO.ite ?_ ?_)
      | (with_reducible refine LeO.bind ?_ (fun _ => ?_))
      | exact ih0 _ _
      | exact ih1 _ _ _ _
      | exact ih2 _ _
      | exact ih3 _ _ _
      | exact ih4 _ _
      | exact LeO.none _
      | refine LeO.ite ?_ ?_
      | refine LeO.bind ?_ (fun _ => ?_)
    · intro y0 y1
      unfold bitloftref23_Logarithm.l0
      repeat' first
      | (with_reducible exact ih0 _ _)
      | (with_reducible exact ih1 _ _ _ _)
      | (with_reducible exact ih2 _ _)
      | (with_reducible exact ih3 _ _ _)
      | (with_reducible exact ih4 _ _)
      | (with_reducible exact LeO.refl _)
      | (with_reducible exact LeO.none _)
      | (with_reducible refine LeO.ite ?_ ?_)
      | (with_reducible refine LeO.bind ?_ (fun _ => ?_))
      | exact ih0 _ _
      | exact ih1 _ _ _ _
      | exact ih2 _ _
      | exact ih3 _ _ _
      | exact ih4 _ _
      | exact LeO.none _
      | refine LeO.ite ?_ ?_
      | refine LeO.bind ?_ (fun _ => ?_)
theorem bitloftref23_Logarithm.mono : ∀ a0 k, LeO (bitloftref23_Logarithm.f k a0) (bitloftref23_Logarithm.f (k + 1) a0) := by
  intro a0 k
  obtain ⟨ih0, ih1, ih2, ih3, ih4⟩ := bitloftref23_Logarithm.mono_l k
  unfold bitloftref23_Logarithm.f
  repeat' first
      | (with_reducible exact ih0 _ _)
      | (with_reducible exact ih1 _ _ _ _)
      | (with_reducible exact ih2 _ _)
      | (with_reducible exact ih3 _ _ _)
      | (with_reducible exact ih4 _ _)
      | (with_reducible exact LeO.refl _)
      | (with_reducible exact LeO.none _)
      | (with_reducible refine LeO.ite ?_ ?_)
      | (with_reducible refine LeO.bind ?_ (fun _ => ?_))
      | exact ih0 _ _
      | exact ih1 _ _ _ _
      | exact ih2 _ _
      | exact ih3 _ _ _
      | exact ih4 _ _
      | exact LeO.none _
      | refine LeO.ite ?_ ?_
      | refine LeO.bind ?_ (fun _ => ?_)
set_option maxHeartbeats 8000000 in
set_option maxRecDepth 100000 in
theorem bitloftref23_Logarithm.calls (k : Nat) (a0 : Int) (r : Int) (w : World) (h : bitloftref23_Logarithm.f k a0 = some r) :
    Calls Try.prog 68 #[.int .u64 a0] w fun e w' => e = .returned (.int .i64 r) ∧ Drawn0 w w' := by
  have H : (bitloftref23_Logarithm.l0 k a0 0) = some r := h
  clear h
  have HC2 := Aside0.mk H
  clear H
  go_enter Try.func68, Try.ntmps68
  go_upto_block 0 with (fail)
  go_cut [3] (fun v3 wc => ∃ (kq : Nat) (x3_1 : Int), v3 = .int .i64 x3_1 ∧ Aside0 (bitloftref23_Logarithm.j1 kq a0 x3_1 = some r) ∧ Aside0 (kq ≤ k) ∧ Drawn0 w wc)
  case first =>
    have H := HC2.out
    clear HC2
    have H' := Aside0.mk H
    clear H
    go_wp2
    go_loopg [3] k (fun kq v3 w' => ∃ (x3_1 : Int), v3 = .int .i64 x3_1 ∧ Aside0 (bitloftref23_Logarithm.l0 kq a0 x3_1 = some r) ∧ Aside0 (kq ≤ k) ∧ Drawn0 w w')
    case atStart => exact ⟨(0), (by first | rfl | (simp; done) | (simp [*]; done)), H', ⟨Nat.le_refl _⟩, by repeat (first | exact Drawn0.refl _ | apply Drawn0.step)⟩
    case round =>
      clear H'
      try clear p2
      obtain ⟨x3_1, rfl, HA, HK1, ⟨m1, rfl⟩⟩ := hrel
      cases gk with
      | zero => exact absurd HA.out (by simp [bitloftref23_Logarithm.l0])
      | succ k1 =>
        have H := HA.out
        clear HA
        simp only [bitloftref23_Logarithm.l0] at H
        by_cases c3 : x3_1 < 32
        · rw [if_pos c3] at H
          have c3b0 : decide (x3_1 < 32) = true := decide_eq_true c3
          clear c3
          (first | rw [c3b0] | (simp only [i64_w, i32_w]; rw [c3b0]) | skip)
          obtain ⟨ji4, hji4⟩ : ∃ j_ : Int, (wrap64 (x3_1 + 1)) = j_ := ⟨_, rfl⟩
          replace H : (if 0 ≤ (ji4) then (if (shl .u64 1 (ji4)) ≤ a0 then (bitloftref23_Logarithm.l0 k1 a0 ji4) else (bitloftref23_Logarithm.j1 k1 a0 x3_1)) else (none)) = some r := by first | (rw [hji4] at H; exact H) | (simp only [hji4] at H ⊢; exact H)
          have hji4w : (IntKind.i64.wrap (x3_1 + 1)) = ji4 := (i64_w _).trans hji4
          by_cases c5 : 0 ≤ (ji4)
          · rw [if_pos c5] at H
            have c5b0 := eq_true c5
            have c5b1 : decide (0 ≤ (ji4)) = true := decide_eq_true c5
            clear c5
            obtain ⟨ji6, hji6⟩ : ∃ j_ : Int, (shl .u64 1 (ji4)) = j_ := ⟨_, rfl⟩
            replace H : (if (ji6) ≤ a0 then (bitloftref23_Logarithm.l0 k1 a0 ji4) else (bitloftref23_Logarithm.j1 k1 a0 x3_1)) = some r := by first | (rw [hji6] at H; exact H) | (simp only [hji6] at H ⊢; exact H)
            have hji6_ : (IntKind.u64.wrap (1 * 2 ^ min (ji4).toNat 64)) = ji6 := hji6
            have hji6z : (ji4) ≤ 64 → (IntKind.u64.wrap (1 * 2 ^ (ji4).toNat)) = ji6 := shl_small hji6
            have hji6u : (IntKind.u64.wrap (2 ^ min (ji4).toNat 64)) = ji6 := by have h_ := hji6_; rw [Int.one_mul] at h_; exact h_
            have hji6v : (ji4) ≤ 64 → (IntKind.u64.wrap (2 ^ (ji4).toNat)) = ji6 := fun hle_ => by have h_ := hji6z hle_; rw [Int.one_mul] at h_; exact h_
            by_cases c7 : (ji6) ≤ a0
            · rw [if_pos c7] at H
              have c7b0 : decide ((ji6) ≤ a0) = true := decide_eq_true c7
              clear c7
              have H' := Aside0.mk H
              clear H
              go_wp2
              go_roundg k1
              case measure => have := HK1.out; omega
              case rel => exact ⟨(ji4), (by first | rfl | (simp; done) | (simp only [← hji4] <;> (first | rfl | simp)) | (simp [*]; done)), H', ⟨by have := HK1.out; omega⟩, by repeat (first | exact Drawn0.refl _ | apply Drawn0.step)⟩
            · rw [if_neg c7] at H
              have c7b0 : decide ((ji6) ≤ a0) = false := decide_eq_false c7
              clear c7
              have H' := Aside0.mk H
              clear H
              go_wp2
              go_meet
              case rel => exact ⟨_, (x3_1), (by first | rfl | (simp; done) | (simp [*]; done)), H', ⟨by have := HK1.out; first | omega | exact Nat.le_refl _⟩, by repeat (first | exact Drawn0.refl _ | apply Drawn0.step)⟩
          · rw [if_neg c5] at H
            exact absurd H (by simp)
        · rw [if_neg c3] at H
          have c3b0 : decide (x3_1 < 32) = false := decide_eq_false c3
          clear c3
          (first | rw [c3b0] | (simp only [i64_w, i32_w]; rw [c3b0]) | skip)
          have H' := Aside0.mk H
          clear H
          go_wp2
          go_meet
          case rel => exact ⟨_, (x3_1), (by first | rfl | (simp; done) | (simp [*]; done)), H', ⟨by have := HK1.out; first | omega | exact Nat.le_refl _⟩, by repeat (first | exact Drawn0.refl _ | apply Drawn0.step)⟩
  case rest =>
    clear HC2
    try clear p2
    try clear c3
    try clear c3b0
    try clear c5
    try clear c5b0
    try clear c5b1
    try clear c6
    try clear p6
    try clear c7
    try clear c7b0
    try clear p2
    obtain ⟨kq, x3_1, rfl, HA, HJ1, ⟨mc1, rfl⟩⟩ := hcut
    cases kq with
    | zero => exact absurd HA.out (by simp [bitloftref23_Logarithm.j1])
    | succ kj1 =>
      have H := HA.out
      clear HA
      simp only [bitloftref23_Logarithm.j1] at H
      have H' := Aside0.mk H
      clear H
      go_wp2
      go_loopg [4, 5] kj1 (fun kq v4 v5 w' => ∃ (x4_2 : Int) (x5_2 : Int), v4 = .int .u64 x4_2 ∧ v5 = .int .i64 x5_2 ∧ Aside0 (bitloftref23_Logarithm.l1 kq a0 x3_1 x4_2 x5_2 = some r) ∧ Aside0 (kq ≤ kj1) ∧ Drawn0 w w')
      case atStart => exact ⟨(a0), (x3_1), (by first | rfl | (simp; done) | (simp [*]; done)), (by first | rfl | (simp; done) | (simp [*]; done)), H', ⟨Nat.le_refl _⟩, by repeat (first | exact Drawn0.refl _ | apply Drawn0.step)⟩
      case round =>
        clear H'
        try clear c1
        try clear p2
        try clear c3
        try clear c3b0
        try clear c5
        try clear c5b0
        try clear c5b1
        try clear c6
        try clear p6
        try clear c7
        try clear c7b0
        try clear p2
        try clear p6
        obtain ⟨x4_2, x5_2, rfl, rfl, HA, HK2, ⟨m2, rfl⟩⟩ := hrel
        cases gk with
        | zero => exact absurd HA.out (by simp [bitloftref23_Logarithm.l1])
        | succ k2 =>
          have H := HA.out
          clear HA
          simp only [bitloftref23_Logarithm.l1] at H
          by_cases c8 : x5_2 < 31
          · rw [if_pos c8] at H
            have c8b0 : decide (x5_2 < 31) = true := decide_eq_true c8
            clear c8
            have H' := Aside0.mk H
            clear H
            go_wp2
            go_roundg k2
            case measure => have := HJ1.out; have := HK2.out; omega
            case rel => exact ⟨(IntKind.u64.wrap (x4_2 * 2)), (wrap64 (x5_2 + 1)), (by first | rfl | (simp; done) | (simp [*]; done)), (by first | rfl | (simp; done) | (simp [*]; done)), H', ⟨by have := HJ1.out; have := HK2.out; omega⟩, by repeat (first | exact Drawn0.refl _ | apply Drawn0.step)⟩
          · rw [if_neg c8] at H
            have c8b0 : decide (x5_2 < 31) = false := decide_eq_false c8
            clear c8
            have HC9 := Aside0.mk H
            clear H
            go_upto_if 28 with (fail)
            go_cut [4] (fun v4 wc => ∃ (kq : Nat) (x4_8 : Int), v4 = .int .u64 x4_8 ∧ Aside0 (bitloftref23_Logarithm.j3 kq x3_1 x4_8 = some r) ∧ Aside0 (kq ≤ k2) ∧ Drawn0 w wc)
            case first =>
              have H := HC9.out
              clear HC9
              by_cases c10 : x3_1 = 32
              · rw [if_pos c10] at H
                have c10b0 : (x3_1 == 32) = true := beq_iff_eq.mpr c10
                have c10b1 : (x3_1 != 32) = false := bne_eq_false_iff_eq.mpr c10
                clear c10
                (first | rw [c10b0] | (simp only [i64_w, i32_w]; rw [c10b0]) | skip)
                have H' := Aside0.mk H
                clear H
                go_wp2
                go_meet
                case rel => exact ⟨_, (IntKind.u64.wrap (Int.tdiv a0 2)), (by first | rfl | (simp; done) | (simp [*]; done)), H', ⟨by have := HJ1.out; have := HK2.out; first | omega | exact Nat.le_refl _⟩, by repeat (first | exact Drawn0.refl _ | apply Drawn0.step)⟩
              · rw [if_neg c10] at H
                have c10b0 : (x3_1 == 32) = false := beq_eq_false_iff_ne.mpr c10
                have c10b1 : (x3_1 != 32) = true := bne_iff_ne.mpr c10
                (first | rw [c10b0] | (simp only [i64_w, i32_w]; rw [c10b0]) | skip)
                have H' := Aside0.mk H
                clear H
                go_wp2
                go_meet
                case rel => exact ⟨_, (x4_2), (by first | rfl | (simp; done) | (simp [*]; done)), H', ⟨by have := HJ1.out; have := HK2.out; first | omega | exact Nat.le_refl _⟩, by repeat (first | exact Drawn0.refl _ | apply Drawn0.step)⟩
            case rest =>
              clear HC9
              try clear c1
              try clear p2
              try clear c3
              try clear c3b0
              try clear c5
              try clear c5b0
              try clear c5b1
              try clear c6
              try clear p6
              try clear c7
              try clear c7b0
              try clear c8
              try clear c8b0
              try clear c10
              try clear c10b0
              try clear c10b1
              try clear p2
              try clear p6
              obtain ⟨kq, x4_8, rfl, HA, HJ8, ⟨mc8, rfl⟩⟩ := hcut
              cases kq with
              | zero => exact absurd HA.out (by simp [bitloftref23_Logarithm.j3])
              | succ kj8 =>
                have H := HA.out
                clear HA
                simp only [bitloftref23_Logarithm.j3] at H
                have H' := Aside0.mk H
                clear H
                go_wp2
                go_loopg [4, 6, 7] kj8 (fun kq v4 v6 v7 w' => ∃ (x4_4 : Int) (x6_4 : Int) (x7_4 : Int), v4 = .int .u64 x4_4 ∧ v6 = .int .i64 x6_4 ∧ v7 = .int .i64 x7_4 ∧ Aside0 (bitloftref23_Logarithm.l2 kq x4_4 x6_4 x7_4 = some r) ∧ Aside0 (kq ≤ kj8) ∧ Drawn0 w w')
                case atStart => exact ⟨(x4_8), (wrap64 (x3_1 * 65536)), (32768), (by first | rfl | (simp; done) | (simp [*]; done)), (by first | rfl | (simp; done) | (simp [*]; done)), (by first | rfl | (simp; done) | (simp [*]; done)), H', ⟨Nat.le_refl _⟩, by repeat (first | exact Drawn0.refl _ | apply Drawn0.step)⟩
                case round =>
                  clear H'
                  try clear c1
                  try clear p2
                  try clear c3
                  try clear c3b0
                  try clear c5
                  try clear c5b0
                  try clear c5b1
                  try clear c6
                  try clear p6
                  try clear c7
                  try clear c7b0
                  try clear c8
                  try clear c8b0
                  try clear c10
                  try clear c10b0
                  try clear c10b1
                  try clear p2
                  try clear p6
                  obtain ⟨x4_4, x6_4, x7_4, rfl, rfl, rfl, HA, HK4, ⟨m4, rfl⟩⟩ := hrel
                  cases gk with
                  | zero => exact absurd HA.out (by simp [bitloftref23_Logarithm.l2])
                  | succ k4 =>
                    have H := HA.out
                    clear HA
                    simp only [bitloftref23_Logarithm.l2] at H
                    by_cases c11 : x7_4 > 0
                    · rw [if_pos c11] at H
                      have c11b0 : decide (0 < x7_4) = true := decide_eq_true c11
                      clear c11
                      by_cases c12 : (IntKind.u64.wrap (Int.tdiv (IntKind.u64.wrap (x4_4 * x4_4)) 2147483648)) ≥ 4294967296
                      · rw [if_pos c12] at H
                        have c12b0 : decide (4294967296 ≤ (IntKind.u64.wrap (Int.tdiv (IntKind.u64.wrap (x4_4 * x4_4)) 2147483648))) = true := decide_eq_true c12
                        clear c12
                        have H' := Aside0.mk H
                        clear H
                        go_wp2
                        go_roundg k4
                        case measure => have := HJ1.out; have := HK2.out; have := HJ8.out; have := HK4.out; omega
                        case rel => exact ⟨(IntKind.u64.wrap (Int.tdiv (IntKind.u64.wrap (Int.tdiv (IntKind.u64.wrap (x4_4 * x4_4)) 2147483648)) 2)), (wrap64 (x6_4 + x7_4)), (wrap64 (Int.tdiv x7_4 2)), (by first | rfl | (simp; done) | (simp [*]; done)), (by first | rfl | (simp; done) | (simp [*]; done)), (by first | rfl | (simp; done) | (simp [*]; done)), H', ⟨by have := HJ1.out; have := HK2.out; have := HJ8.out; have := HK4.out; omega⟩, by repeat (first | exact Drawn0.refl _ | apply Drawn0.step)⟩
                      · rw [if_neg c12] at H
                        have c12b0 : decide (4294967296 ≤ (IntKind.u64.wrap (Int.tdiv (IntKind.u64.wrap (x4_4 * x4_4)) 2147483648))) = false := decide_eq_false c12
                        clear c12
                        have H' := Aside0.mk H
                        clear H
                        go_wp2
                        go_roundg k4
                        case measure => have := HJ1.out; have := HK2.out; have := HJ8.out; have := HK4.out; omega
                        case rel => exact ⟨(IntKind.u64.wrap (Int.tdiv (IntKind.u64.wrap (x4_4 * x4_4)) 2147483648)), (x6_4), (wrap64 (Int.tdiv x7_4 2)), (by first | rfl | (simp; done) | (simp [*]; done)), (by first | rfl | (simp; done) | (simp [*]; done)), (by first | rfl | (simp; done) | (simp [*]; done)), H', ⟨by have := HJ1.out; have := HK2.out; have := HJ8.out; have := HK4.out; omega⟩, by repeat (first | exact Drawn0.refl _ | apply Drawn0.step)⟩
                    · rw [if_neg c11] at H
                      have c11b0 : decide (0 < x7_4) = false := decide_eq_false c11
                      clear c11
                      obtain rfl := Option.some.inj H
                      go_wp2
                      go_ret
                      exact ⟨by first | rfl | (simp; done) | (simp [*]; done), by repeat (first | exact Drawn0.refl _ | apply Drawn0.step)⟩

/-! ### bitloftlaw23_CostNames: function 21 -/
def bitloftlaw23_CostNames.f (k : Nat)  : Option (Bool) := (cost_Log.f k 0).bind fun bt158 => ((cost_Log.f k 4294967297).bind fun bt160 => ((cost_Log.f k 4294967296).bind fun bt162 => ((cost_Bit.f k 0 true).bind fun bt164 => ((cost_Bit.f k 4096 false).bind fun bt166 => ((cost_Step.f k 5 5 1 true).bind fun bt168 => ((cost_Step.f k 6 5 1 true).bind fun bt170 => ((cost_Step.f k 5 6 0 true).bind fun bt172 => ((cost_Step.f k 5 6 4096 true).bind fun bt174 => ((cost_Step.f k 5 6 1 true).bind fun bt176 => (if 2001 ≤ 281474976710656 then ((cost_Ideal.f k (([0] : List Int)) (List.replicate 2001 false)).bind fun bt184 => (if 1 ≤ 281474976710656 then ((cost_Real.f k (([0] : List Int)) (List.replicate 1 false)).bind fun bt192 => ((cost_Bytes.f k (([1, 1] : List Int)) (List.replicate 1 false)).bind fun bt200 => ((cost_Real.f k ([] : List Int) ([] : List Bool)).bind fun bt202 => ((cost_Bit.f k 1 true).bind fun bt204 => ((cost_Bit.f k 1 false).bind fun bt206 => ((bitloftlaw23_alive.f k).bind fun t208 => (if t208 = true then (if bt158.2 = 2 then (if bt160.2 = 2 then (if bt162.2 = 0 then (if bt162.1 = 2097152 then (if bt164.2 = 2 then (if bt166.2 = 2 then (if bt168.2 = 2 then (if bt170.2 = 2 then (if bt172.2 = 2 then (if bt174.2 = 2 then (if bt176.2 = 0 then (if bt176.1 = 65536 then (if bt184.2 = 4 then (if bt192.2 = 2 then (if bt200.2 = 2 then (if bt202.2 = 0 then (if bt202.1 = 0 then (if bt204.2 = 0 then (if bt204.1 = 786432 then (if bt206.2 = 0 then ((bitloftref23_Logarithm.f k 4095).bind fun t209 => (some (bt206.1 == (wrap64 (786432 - t209))))) else (none)) else (none)) else (none)) else (none)) else (none)) else (none)) else (none)) else (none)) else (none)) else (none)) else (none)) else (none)) else (none)) else (none)) else (none)) else (none)) else (none)) else (none)) else (none)) else (none)) else (none)))))))) else (none))) else (none)))))))))))
theorem bitloftlaw23_CostNames.mono : ∀ k, LeO (bitloftlaw23_CostNames.f k ) (bitloftlaw23_CostNames.f (k + 1) ) := by
  intro  k
  unfold bitloftlaw23_CostNames.f
  repeat' first
      | (with_reducible exact bitloftlaw23_alive.mono _)
      | (with_reducible exact bitloftref23_Logarithm.mono _ _)
      | (with_reducible exact cost_Bit.mono _ _ _)
      | (with_reducible exact cost_Bytes.mono _ _ _)
      | (with_reducible exact cost_Ideal.mono _ _ _)
      | (with_reducible exact cost_Log.mono _ _)
      | (with_reducible exact cost_Real.mono _ _ _)
      | (with_reducible exact cost_Step.mono _ _ _ _ _)
      | (with_reducible exact LeO.refl _)
      | (with_reducible exact LeO.none _)
      | (with_reducible refine LeO.ite ?_ ?_)
      | (with_reducible refine LeO.bind ?_ (fun _ => ?_))
      | exact bitloftlaw23_alive.mono _
      | exact bitloftref23_Logarithm.mono _ _
      | exact cost_Bit.mono _ _ _
      | exact cost_Bytes.mono _ _ _
      | exact cost_Ideal.mono _ _ _
      | exact cost_Log.mono _ _
      | exact cost_Real.mono _ _ _
      | exact cost_Step.mono _ _ _ _ _
      | exact LeO.none _
      | refine LeO.ite ?_ ?_
      | refine LeO.bind ?_ (fun _ => ?_)
set_option maxHeartbeats 8000000 in
set_option maxRecDepth 100000 in
theorem bitloftlaw23_CostNames.calls (k : Nat)  (r : Bool) (w : World) (h : bitloftlaw23_CostNames.f k  = some r) :
    Calls Try.prog 21 #[] w fun e w' => e = .returned (.bool r) ∧ Below w.heap.size w w' := by
  have HB := Aside0.mk (Below.refl w.heap.size w)
  have H : ((cost_Log.f k 0).bind fun bt158 => ((cost_Log.f k 4294967297).bind fun bt160 => ((cost_Log.f k 4294967296).bind fun bt162 => ((cost_Bit.f k 0 true).bind fun bt164 => ((cost_Bit.f k 4096 false).bind fun bt166 => ((cost_Step.f k 5 5 1 true).bind fun bt168 => ((cost_Step.f k 6 5 1 true).bind fun bt170 => ((cost_Step.f k 5 6 0 true).bind fun bt172 => ((cost_Step.f k 5 6 4096 true).bind fun bt174 => ((cost_Step.f k 5 6 1 true).bind fun bt176 => (if 2001 ≤ 281474976710656 then ((cost_Ideal.f k (([0] : List Int)) (List.replicate 2001 false)).bind fun bt184 => (if 1 ≤ 281474976710656 then ((cost_Real.f k (([0] : List Int)) (List.replicate 1 false)).bind fun bt192 => ((cost_Bytes.f k (([1, 1] : List Int)) (List.replicate 1 false)).bind fun bt200 => ((cost_Real.f k ([] : List Int) ([] : List Bool)).bind fun bt202 => ((cost_Bit.f k 1 true).bind fun bt204 => ((cost_Bit.f k 1 false).bind fun bt206 => ((bitloftlaw23_alive.f k).bind fun t208 => (if t208 = true then (if bt158.2 = 2 then (if bt160.2 = 2 then (if bt162.2 = 0 then (if bt162.1 = 2097152 then (if bt164.2 = 2 then (if bt166.2 = 2 then (if bt168.2 = 2 then (if bt170.2 = 2 then (if bt172.2 = 2 then (if bt174.2 = 2 then (if bt176.2 = 0 then (if bt176.1 = 65536 then (if bt184.2 = 4 then (if bt192.2 = 2 then (if bt200.2 = 2 then (if bt202.2 = 0 then (if bt202.1 = 0 then (if bt204.2 = 0 then (if bt204.1 = 786432 then (if bt206.2 = 0 then ((bitloftref23_Logarithm.f k 4095).bind fun t209 => (some (bt206.1 == (wrap64 (786432 - t209))))) else (none)) else (none)) else (none)) else (none)) else (none)) else (none)) else (none)) else (none)) else (none)) else (none)) else (none)) else (none)) else (none)) else (none)) else (none)) else (none)) else (none)) else (none)) else (none)) else (none)) else (none)))))))) else (none))) else (none)))))))))))) = some r := h
  clear h
  replace H := Option.bind_eq_some_iff.mp H
  obtain ⟨⟨t158, t159⟩, A10, H⟩ := H
  replace H : ((cost_Log.f k 4294967297).bind fun bt160 => ((cost_Log.f k 4294967296).bind fun bt162 => ((cost_Bit.f k 0 true).bind fun bt164 => ((cost_Bit.f k 4096 false).bind fun bt166 => ((cost_Step.f k 5 5 1 true).bind fun bt168 => ((cost_Step.f k 6 5 1 true).bind fun bt170 => ((cost_Step.f k 5 6 0 true).bind fun bt172 => ((cost_Step.f k 5 6 4096 true).bind fun bt174 => ((cost_Step.f k 5 6 1 true).bind fun bt176 => (if 2001 ≤ 281474976710656 then ((cost_Ideal.f k (([0] : List Int)) (List.replicate 2001 false)).bind fun bt184 => (if 1 ≤ 281474976710656 then ((cost_Real.f k (([0] : List Int)) (List.replicate 1 false)).bind fun bt192 => ((cost_Bytes.f k (([1, 1] : List Int)) (List.replicate 1 false)).bind fun bt200 => ((cost_Real.f k ([] : List Int) ([] : List Bool)).bind fun bt202 => ((cost_Bit.f k 1 true).bind fun bt204 => ((cost_Bit.f k 1 false).bind fun bt206 => ((bitloftlaw23_alive.f k).bind fun t208 => (if t208 = true then (if t159 = 2 then (if bt160.2 = 2 then (if bt162.2 = 0 then (if bt162.1 = 2097152 then (if bt164.2 = 2 then (if bt166.2 = 2 then (if bt168.2 = 2 then (if bt170.2 = 2 then (if bt172.2 = 2 then (if bt174.2 = 2 then (if bt176.2 = 0 then (if bt176.1 = 65536 then (if bt184.2 = 4 then (if bt192.2 = 2 then (if bt200.2 = 2 then (if bt202.2 = 0 then (if bt202.1 = 0 then (if bt204.2 = 0 then (if bt204.1 = 786432 then (if bt206.2 = 0 then ((bitloftref23_Logarithm.f k 4095).bind fun t209 => (some (bt206.1 == (wrap64 (786432 - t209))))) else (none)) else (none)) else (none)) else (none)) else (none)) else (none)) else (none)) else (none)) else (none)) else (none)) else (none)) else (none)) else (none)) else (none)) else (none)) else (none)) else (none)) else (none)) else (none)) else (none)) else (none)))))))) else (none))) else (none))))))))))) = some r := H
  have A1 := Aside0.mk A10
  clear A10
  replace H := Option.bind_eq_some_iff.mp H
  obtain ⟨⟨t160, t161⟩, A20, H⟩ := H
  replace H : ((cost_Log.f k 4294967296).bind fun bt162 => ((cost_Bit.f k 0 true).bind fun bt164 => ((cost_Bit.f k 4096 false).bind fun bt166 => ((cost_Step.f k 5 5 1 true).bind fun bt168 => ((cost_Step.f k 6 5 1 true).bind fun bt170 => ((cost_Step.f k 5 6 0 true).bind fun bt172 => ((cost_Step.f k 5 6 4096 true).bind fun bt174 => ((cost_Step.f k 5 6 1 true).bind fun bt176 => (if 2001 ≤ 281474976710656 then ((cost_Ideal.f k (([0] : List Int)) (List.replicate 2001 false)).bind fun bt184 => (if 1 ≤ 281474976710656 then ((cost_Real.f k (([0] : List Int)) (List.replicate 1 false)).bind fun bt192 => ((cost_Bytes.f k (([1, 1] : List Int)) (List.replicate 1 false)).bind fun bt200 => ((cost_Real.f k ([] : List Int) ([] : List Bool)).bind fun bt202 => ((cost_Bit.f k 1 true).bind fun bt204 => ((cost_Bit.f k 1 false).bind fun bt206 => ((bitloftlaw23_alive.f k).bind fun t208 => (if t208 = true then (if t159 = 2 then (if t161 = 2 then (if bt162.2 = 0 then (if bt162.1 = 2097152 then (if bt164.2 = 2 then (if bt166.2 = 2 then (if bt168.2 = 2 then (if bt170.2 = 2 then (if bt172.2 = 2 then (if bt174.2 = 2 then (if bt176.2 = 0 then (if bt176.1 = 65536 then (if bt184.2 = 4 then (if bt192.2 = 2 then (if bt200.2 = 2 then (if bt202.2 = 0 then (if bt202.1 = 0 then (if bt204.2 = 0 then (if bt204.1 = 786432 then (if bt206.2 = 0 then ((bitloftref23_Logarithm.f k 4095).bind fun t209 => (some (bt206.1 == (wrap64 (786432 - t209))))) else (none)) else (none)) else (none)) else (none)) else (none)) else (none)) else (none)) else (none)) else (none)) else (none)) else (none)) else (none)) else (none)) else (none)) else (none)) else (none)) else (none)) else (none)) else (none)) else (none)) else (none)))))))) else (none))) else (none)))))))))) = some r := H
  have A2 := Aside0.mk A20
  clear A20
  replace H := Option.bind_eq_some_iff.mp H
  obtain ⟨⟨t162, t163⟩, A30, H⟩ := H
  replace H : ((cost_Bit.f k 0 true).bind fun bt164 => ((cost_Bit.f k 4096 false).bind fun bt166 => ((cost_Step.f k 5 5 1 true).bind fun bt168 => ((cost_Step.f k 6 5 1 true).bind fun bt170 => ((cost_Step.f k 5 6 0 true).bind fun bt172 => ((cost_Step.f k 5 6 4096 true).bind fun bt174 => ((cost_Step.f k 5 6 1 true).bind fun bt176 => (if 2001 ≤ 281474976710656 then ((cost_Ideal.f k (([0] : List Int)) (List.replicate 2001 false)).bind fun bt184 => (if 1 ≤ 281474976710656 then ((cost_Real.f k (([0] : List Int)) (List.replicate 1 false)).bind fun bt192 => ((cost_Bytes.f k (([1, 1] : List Int)) (List.replicate 1 false)).bind fun bt200 => ((cost_Real.f k ([] : List Int) ([] : List Bool)).bind fun bt202 => ((cost_Bit.f k 1 true).bind fun bt204 => ((cost_Bit.f k 1 false).bind fun bt206 => ((bitloftlaw23_alive.f k).bind fun t208 => (if t208 = true then (if t159 = 2 then (if t161 = 2 then (if t163 = 0 then (if t162 = 2097152 then (if bt164.2 = 2 then (if bt166.2 = 2 then (if bt168.2 = 2 then (if bt170.2 = 2 then (if bt172.2 = 2 then (if bt174.2 = 2 then (if bt176.2 = 0 then (if bt176.1 = 65536 then (if bt184.2 = 4 then (if bt192.2 = 2 then (if bt200.2 = 2 then (if bt202.2 = 0 then (if bt202.1 = 0 then (if bt204.2 = 0 then (if bt204.1 = 786432 then (if bt206.2 = 0 then ((bitloftref23_Logarithm.f k 4095).bind fun t209 => (some (bt206.1 == (wrap64 (786432 - t209))))) else (none)) else (none)) else (none)) else (none)) else (none)) else (none)) else (none)) else (none)) else (none)) else (none)) else (none)) else (none)) else (none)) else (none)) else (none)) else (none)) else (none)) else (none)) else (none)) else (none)) else (none)))))))) else (none))) else (none))))))))) = some r := H
  have A3 := Aside0.mk A30
  clear A30
  replace H := Option.bind_eq_some_iff.mp H
  obtain ⟨⟨t164, t165⟩, A40, H⟩ := H
  replace H : ((cost_Bit.f k 4096 false).bind fun bt166 => ((cost_Step.f k 5 5 1 true).bind fun bt168 => ((cost_Step.f k 6 5 1 true).bind fun bt170 => ((cost_Step.f k 5 6 0 true).bind fun bt172 => ((cost_Step.f k 5 6 4096 true).bind fun bt174 => ((cost_Step.f k 5 6 1 true).bind fun bt176 => (if 2001 ≤ 281474976710656 then ((cost_Ideal.f k (([0] : List Int)) (List.replicate 2001 false)).bind fun bt184 => (if 1 ≤ 281474976710656 then ((cost_Real.f k (([0] : List Int)) (List.replicate 1 false)).bind fun bt192 => ((cost_Bytes.f k (([1, 1] : List Int)) (List.replicate 1 false)).bind fun bt200 => ((cost_Real.f k ([] : List Int) ([] : List Bool)).bind fun bt202 => ((cost_Bit.f k 1 true).bind fun bt204 => ((cost_Bit.f k 1 false).bind fun bt206 => ((bitloftlaw23_alive.f k).bind fun t208 => (if t208 = true then (if t159 = 2 then (if t161 = 2 then (if t163 = 0 then (if t162 = 2097152 then (if t165 = 2 then (if bt166.2 = 2 then (if bt168.2 = 2 then (if bt170.2 = 2 then (if bt172.2 = 2 then (if bt174.2 = 2 then (if bt176.2 = 0 then (if bt176.1 = 65536 then (if bt184.2 = 4 then (if bt192.2 = 2 then (if bt200.2 = 2 then (if bt202.2 = 0 then (if bt202.1 = 0 then (if bt204.2 = 0 then (if bt204.1 = 786432 then (if bt206.2 = 0 then ((bitloftref23_Logarithm.f k 4095).bind fun t209 => (some (bt206.1 == (wrap64 (786432 - t209))))) else (none)) else (none)) else (none)) else (none)) else (none)) else (none)) else (none)) else (none)) else (none)) else (none)) else (none)) else (none)) else (none)) else (none)) else (none)) else (none)) else (none)) else (none)) else (none)) else (none)) else (none)))))))) else (none))) else (none)))))))) = some r := H
  have A4 := Aside0.mk A40
  clear A40
  replace H := Option.bind_eq_some_iff.mp H
  obtain ⟨⟨t166, t167⟩, A50, H⟩ := H
  replace H : ((cost_Step.f k 5 5 1 true).bind fun bt168 => ((cost_Step.f k 6 5 1 true).bind fun bt170 => ((cost_Step.f k 5 6 0 true).bind fun bt172 => ((cost_Step.f k 5 6 4096 true).bind fun bt174 => ((cost_Step.f k 5 6 1 true).bind fun bt176 => (if 2001 ≤ 281474976710656 then ((cost_Ideal.f k (([0] : List Int)) (List.replicate 2001 false)).bind fun bt184 => (if 1 ≤ 281474976710656 then ((cost_Real.f k (([0] : List Int)) (List.replicate 1 false)).bind fun bt192 => ((cost_Bytes.f k (([1, 1] : List Int)) (List.replicate 1 false)).bind fun bt200 => ((cost_Real.f k ([] : List Int) ([] : List Bool)).bind fun bt202 => ((cost_Bit.f k 1 true).bind fun bt204 => ((cost_Bit.f k 1 false).bind fun bt206 => ((bitloftlaw23_alive.f k).bind fun t208 => (if t208 = true then (if t159 = 2 then (if t161 = 2 then (if t163 = 0 then (if t162 = 2097152 then (if t165 = 2 then (if t167 = 2 then (if bt168.2 = 2 then (if bt170.2 = 2 then (if bt172.2 = 2 then (if bt174.2 = 2 then (if bt176.2 = 0 then (if bt176.1 = 65536 then (if bt184.2 = 4 then (if bt192.2 = 2 then (if bt200.2 = 2 then (if bt202.2 = 0 then (if bt202.1 = 0 then (if bt204.2 = 0 then (if bt204.1 = 786432 then (if bt206.2 = 0 then ((bitloftref23_Logarithm.f k 4095).bind fun t209 => (some (bt206.1 == (wrap64 (786432 - t209))))) else (none)) else (none)) else (none)) else (none)) else (none)) else (none)) else (none)) else (none)) else (none)) else (none)) else (none)) else (none)) else (none)) else (none)) else (none)) else (none)) else (none)) else (none)) else (none)) else (none)) else (none)))))))) else (none))) else (none))))))) = some r := H
  have A5 := Aside0.mk A50
  clear A50
  replace H := Option.bind_eq_some_iff.mp H
  obtain ⟨⟨t168, t169⟩, A60, H⟩ := H
  replace H : ((cost_Step.f k 6 5 1 true).bind fun bt170 => ((cost_Step.f k 5 6 0 true).bind fun bt172 => ((cost_Step.f k 5 6 4096 true).bind fun bt174 => ((cost_Step.f k 5 6 1 true).bind fun bt176 => (if 2001 ≤ 281474976710656 then ((cost_Ideal.f k (([0] : List Int)) (List.replicate 2001 false)).bind fun bt184 => (if 1 ≤ 281474976710656 then ((cost_Real.f k (([0] : List Int)) (List.replicate 1 false)).bind fun bt192 => ((cost_Bytes.f k (([1, 1] : List Int)) (List.replicate 1 false)).bind fun bt200 => ((cost_Real.f k ([] : List Int) ([] : List Bool)).bind fun bt202 => ((cost_Bit.f k 1 true).bind fun bt204 => ((cost_Bit.f k 1 false).bind fun bt206 => ((bitloftlaw23_alive.f k).bind fun t208 => (if t208 = true then (if t159 = 2 then (if t161 = 2 then (if t163 = 0 then (if t162 = 2097152 then (if t165 = 2 then (if t167 = 2 then (if t169 = 2 then (if bt170.2 = 2 then (if bt172.2 = 2 then (if bt174.2 = 2 then (if bt176.2 = 0 then (if bt176.1 = 65536 then (if bt184.2 = 4 then (if bt192.2 = 2 then (if bt200.2 = 2 then (if bt202.2 = 0 then (if bt202.1 = 0 then (if bt204.2 = 0 then (if bt204.1 = 786432 then (if bt206.2 = 0 then ((bitloftref23_Logarithm.f k 4095).bind fun t209 => (some (bt206.1 == (wrap64 (786432 - t209))))) else (none)) else (none)) else (none)) else (none)) else (none)) else (none)) else (none)) else (none)) else (none)) else (none)) else (none)) else (none)) else (none)) else (none)) else (none)) else (none)) else (none)) else (none)) else (none)) else (none)) else (none)))))))) else (none))) else (none)))))) = some r := H
  have A6 := Aside0.mk A60
  clear A60
  replace H := Option.bind_eq_some_iff.mp H
  obtain ⟨⟨t170, t171⟩, A70, H⟩ := H
  replace H : ((cost_Step.f k 5 6 0 true).bind fun bt172 => ((cost_Step.f k 5 6 4096 true).bind fun bt174 => ((cost_Step.f k 5 6 1 true).bind fun bt176 => (if 2001 ≤ 281474976710656 then ((cost_Ideal.f k (([0] : List Int)) (List.replicate 2001 false)).bind fun bt184 => (if 1 ≤ 281474976710656 then ((cost_Real.f k (([0] : List Int)) (List.replicate 1 false)).bind fun bt192 => ((cost_Bytes.f k (([1, 1] : List Int)) (List.replicate 1 false)).bind fun bt200 => ((cost_Real.f k ([] : List Int) ([] : List Bool)).bind fun bt202 => ((cost_Bit.f k 1 true).bind fun bt204 => ((cost_Bit.f k 1 false).bind fun bt206 => ((bitloftlaw23_alive.f k).bind fun t208 => (if t208 = true then (if t159 = 2 then (if t161 = 2 then (if t163 = 0 then (if t162 = 2097152 then (if t165 = 2 then (if t167 = 2 then (if t169 = 2 then (if t171 = 2 then (if bt172.2 = 2 then (if bt174.2 = 2 then (if bt176.2 = 0 then (if bt176.1 = 65536 then (if bt184.2 = 4 then (if bt192.2 = 2 then (if bt200.2 = 2 then (if bt202.2 = 0 then (if bt202.1 = 0 then (if bt204.2 = 0 then (if bt204.1 = 786432 then (if bt206.2 = 0 then ((bitloftref23_Logarithm.f k 4095).bind fun t209 => (some (bt206.1 == (wrap64 (786432 - t209))))) else (none)) else (none)) else (none)) else (none)) else (none)) else (none)) else (none)) else (none)) else (none)) else (none)) else (none)) else (none)) else (none)) else (none)) else (none)) else (none)) else (none)) else (none)) else (none)) else (none)) else (none)))))))) else (none))) else (none))))) = some r := H
  have A7 := Aside0.mk A70
  clear A70
  replace H := Option.bind_eq_some_iff.mp H
  obtain ⟨⟨t172, t173⟩, A80, H⟩ := H
  replace H : ((cost_Step.f k 5 6 4096 true).bind fun bt174 => ((cost_Step.f k 5 6 1 true).bind fun bt176 => (if 2001 ≤ 281474976710656 then ((cost_Ideal.f k (([0] : List Int)) (List.replicate 2001 false)).bind fun bt184 => (if 1 ≤ 281474976710656 then ((cost_Real.f k (([0] : List Int)) (List.replicate 1 false)).bind fun bt192 => ((cost_Bytes.f k (([1, 1] : List Int)) (List.replicate 1 false)).bind fun bt200 => ((cost_Real.f k ([] : List Int) ([] : List Bool)).bind fun bt202 => ((cost_Bit.f k 1 true).bind fun bt204 => ((cost_Bit.f k 1 false).bind fun bt206 => ((bitloftlaw23_alive.f k).bind fun t208 => (if t208 = true then (if t159 = 2 then (if t161 = 2 then (if t163 = 0 then (if t162 = 2097152 then (if t165 = 2 then (if t167 = 2 then (if t169 = 2 then (if t171 = 2 then (if t173 = 2 then (if bt174.2 = 2 then (if bt176.2 = 0 then (if bt176.1 = 65536 then (if bt184.2 = 4 then (if bt192.2 = 2 then (if bt200.2 = 2 then (if bt202.2 = 0 then (if bt202.1 = 0 then (if bt204.2 = 0 then (if bt204.1 = 786432 then (if bt206.2 = 0 then ((bitloftref23_Logarithm.f k 4095).bind fun t209 => (some (bt206.1 == (wrap64 (786432 - t209))))) else (none)) else (none)) else (none)) else (none)) else (none)) else (none)) else (none)) else (none)) else (none)) else (none)) else (none)) else (none)) else (none)) else (none)) else (none)) else (none)) else (none)) else (none)) else (none)) else (none)) else (none)))))))) else (none))) else (none)))) = some r := H
  have A8 := Aside0.mk A80
  clear A80
  replace H := Option.bind_eq_some_iff.mp H
  obtain ⟨⟨t174, t175⟩, A90, H⟩ := H
  replace H : ((cost_Step.f k 5 6 1 true).bind fun bt176 => (if 2001 ≤ 281474976710656 then ((cost_Ideal.f k (([0] : List Int)) (List.replicate 2001 false)).bind fun bt184 => (if 1 ≤ 281474976710656 then ((cost_Real.f k (([0] : List Int)) (List.replicate 1 false)).bind fun bt192 => ((cost_Bytes.f k (([1, 1] : List Int)) (List.replicate 1 false)).bind fun bt200 => ((cost_Real.f k ([] : List Int) ([] : List Bool)).bind fun bt202 => ((cost_Bit.f k 1 true).bind fun bt204 => ((cost_Bit.f k 1 false).bind fun bt206 => ((bitloftlaw23_alive.f k).bind fun t208 => (if t208 = true then (if t159 = 2 then (if t161 = 2 then (if t163 = 0 then (if t162 = 2097152 then (if t165 = 2 then (if t167 = 2 then (if t169 = 2 then (if t171 = 2 then (if t173 = 2 then (if t175 = 2 then (if bt176.2 = 0 then (if bt176.1 = 65536 then (if bt184.2 = 4 then (if bt192.2 = 2 then (if bt200.2 = 2 then (if bt202.2 = 0 then (if bt202.1 = 0 then (if bt204.2 = 0 then (if bt204.1 = 786432 then (if bt206.2 = 0 then ((bitloftref23_Logarithm.f k 4095).bind fun t209 => (some (bt206.1 == (wrap64 (786432 - t209))))) else (none)) else (none)) else (none)) else (none)) else (none)) else (none)) else (none)) else (none)) else (none)) else (none)) else (none)) else (none)) else (none)) else (none)) else (none)) else (none)) else (none)) else (none)) else (none)) else (none)) else (none)))))))) else (none))) else (none))) = some r := H
  have A9 := Aside0.mk A90
  clear A90
  replace H := Option.bind_eq_some_iff.mp H
  obtain ⟨⟨t176, t177⟩, A100, H⟩ := H
  replace H : (if 2001 ≤ 281474976710656 then ((cost_Ideal.f k (([0] : List Int)) (List.replicate 2001 false)).bind fun bt184 => (if 1 ≤ 281474976710656 then ((cost_Real.f k (([0] : List Int)) (List.replicate 1 false)).bind fun bt192 => ((cost_Bytes.f k (([1, 1] : List Int)) (List.replicate 1 false)).bind fun bt200 => ((cost_Real.f k ([] : List Int) ([] : List Bool)).bind fun bt202 => ((cost_Bit.f k 1 true).bind fun bt204 => ((cost_Bit.f k 1 false).bind fun bt206 => ((bitloftlaw23_alive.f k).bind fun t208 => (if t208 = true then (if t159 = 2 then (if t161 = 2 then (if t163 = 0 then (if t162 = 2097152 then (if t165 = 2 then (if t167 = 2 then (if t169 = 2 then (if t171 = 2 then (if t173 = 2 then (if t175 = 2 then (if t177 = 0 then (if t176 = 65536 then (if bt184.2 = 4 then (if bt192.2 = 2 then (if bt200.2 = 2 then (if bt202.2 = 0 then (if bt202.1 = 0 then (if bt204.2 = 0 then (if bt204.1 = 786432 then (if bt206.2 = 0 then ((bitloftref23_Logarithm.f k 4095).bind fun t209 => (some (bt206.1 == (wrap64 (786432 - t209))))) else (none)) else (none)) else (none)) else (none)) else (none)) else (none)) else (none)) else (none)) else (none)) else (none)) else (none)) else (none)) else (none)) else (none)) else (none)) else (none)) else (none)) else (none)) else (none)) else (none)) else (none)))))))) else (none))) else (none)) = some r := H
  have A10 := Aside0.mk A100
  clear A100
  obtain ⟨y178, hy178⟩ : ∃ y_ : List Int, y_ = (([0] : List Int)) := ⟨_, rfl⟩
  replace H : (if 2001 ≤ 281474976710656 then ((cost_Ideal.f k y178 (List.replicate 2001 false)).bind fun bt184 => (if 1 ≤ 281474976710656 then ((cost_Real.f k (([0] : List Int)) (List.replicate 1 false)).bind fun bt192 => ((cost_Bytes.f k (([1, 1] : List Int)) (List.replicate 1 false)).bind fun bt200 => ((cost_Real.f k ([] : List Int) ([] : List Bool)).bind fun bt202 => ((cost_Bit.f k 1 true).bind fun bt204 => ((cost_Bit.f k 1 false).bind fun bt206 => ((bitloftlaw23_alive.f k).bind fun t208 => (if t208 = true then (if t159 = 2 then (if t161 = 2 then (if t163 = 0 then (if t162 = 2097152 then (if t165 = 2 then (if t167 = 2 then (if t169 = 2 then (if t171 = 2 then (if t173 = 2 then (if t175 = 2 then (if t177 = 0 then (if t176 = 65536 then (if bt184.2 = 4 then (if bt192.2 = 2 then (if bt200.2 = 2 then (if bt202.2 = 0 then (if bt202.1 = 0 then (if bt204.2 = 0 then (if bt204.1 = 786432 then (if bt206.2 = 0 then ((bitloftref23_Logarithm.f k 4095).bind fun t209 => (some (bt206.1 == (wrap64 (786432 - t209))))) else (none)) else (none)) else (none)) else (none)) else (none)) else (none)) else (none)) else (none)) else (none)) else (none)) else (none)) else (none)) else (none)) else (none)) else (none)) else (none)) else (none)) else (none)) else (none)) else (none)) else (none)))))))) else (none))) else (none)) = some r := by first | (rw [hy178]; with_reducible exact H) | (have H2_ := (Option.bind_some _ _).symm.trans H; rw [hy178]; with_reducible exact H2_) | (have H2_ := (Option.bind_some _ _).symm.trans H; with_reducible exact H2_) | with_reducible exact H | (rw [hy178]; exact H) | exact H
  have Ny178 := Aside0.mk hy178
  clear hy178
  by_cases c11 : 2001 ≤ 281474976710656
  · rw [if_pos c11] at H
    have c11b0 := eq_true c11
    have c11b1 : decide (2001 ≤ 281474976710656) = true := decide_eq_true c11
    clear c11
    obtain ⟨y181, hy181⟩ : ∃ y_ : List Bool, y_ = (List.replicate 2001 false) := ⟨_, rfl⟩
    replace H : ((cost_Ideal.f k y178 y181).bind fun bt184 => (if 1 ≤ 281474976710656 then ((cost_Real.f k (([0] : List Int)) (List.replicate 1 false)).bind fun bt192 => ((cost_Bytes.f k (([1, 1] : List Int)) (List.replicate 1 false)).bind fun bt200 => ((cost_Real.f k ([] : List Int) ([] : List Bool)).bind fun bt202 => ((cost_Bit.f k 1 true).bind fun bt204 => ((cost_Bit.f k 1 false).bind fun bt206 => ((bitloftlaw23_alive.f k).bind fun t208 => (if t208 = true then (if t159 = 2 then (if t161 = 2 then (if t163 = 0 then (if t162 = 2097152 then (if t165 = 2 then (if t167 = 2 then (if t169 = 2 then (if t171 = 2 then (if t173 = 2 then (if t175 = 2 then (if t177 = 0 then (if t176 = 65536 then (if bt184.2 = 4 then (if bt192.2 = 2 then (if bt200.2 = 2 then (if bt202.2 = 0 then (if bt202.1 = 0 then (if bt204.2 = 0 then (if bt204.1 = 786432 then (if bt206.2 = 0 then ((bitloftref23_Logarithm.f k 4095).bind fun t209 => (some (bt206.1 == (wrap64 (786432 - t209))))) else (none)) else (none)) else (none)) else (none)) else (none)) else (none)) else (none)) else (none)) else (none)) else (none)) else (none)) else (none)) else (none)) else (none)) else (none)) else (none)) else (none)) else (none)) else (none)) else (none)) else (none)))))))) else (none))) = some r := by first | (rw [hy181]; with_reducible exact H) | (have H2_ := (Option.bind_some _ _).symm.trans H; rw [hy181]; with_reducible exact H2_) | (have H2_ := (Option.bind_some _ _).symm.trans H; with_reducible exact H2_) | with_reducible exact H | (rw [hy181]; exact H) | exact H
    have Ny181 := Aside0.mk hy181
    clear hy181
    replace H := Option.bind_eq_some_iff.mp H
    obtain ⟨⟨t184, t185⟩, A120, H⟩ := H
    replace H : (if 1 ≤ 281474976710656 then ((cost_Real.f k (([0] : List Int)) (List.replicate 1 false)).bind fun bt192 => ((cost_Bytes.f k (([1, 1] : List Int)) (List.replicate 1 false)).bind fun bt200 => ((cost_Real.f k ([] : List Int) ([] : List Bool)).bind fun bt202 => ((cost_Bit.f k 1 true).bind fun bt204 => ((cost_Bit.f k 1 false).bind fun bt206 => ((bitloftlaw23_alive.f k).bind fun t208 => (if t208 = true then (if t159 = 2 then (if t161 = 2 then (if t163 = 0 then (if t162 = 2097152 then (if t165 = 2 then (if t167 = 2 then (if t169 = 2 then (if t171 = 2 then (if t173 = 2 then (if t175 = 2 then (if t177 = 0 then (if t176 = 65536 then (if t185 = 4 then (if bt192.2 = 2 then (if bt200.2 = 2 then (if bt202.2 = 0 then (if bt202.1 = 0 then (if bt204.2 = 0 then (if bt204.1 = 786432 then (if bt206.2 = 0 then ((bitloftref23_Logarithm.f k 4095).bind fun t209 => (some (bt206.1 == (wrap64 (786432 - t209))))) else (none)) else (none)) else (none)) else (none)) else (none)) else (none)) else (none)) else (none)) else (none)) else (none)) else (none)) else (none)) else (none)) else (none)) else (none)) else (none)) else (none)) else (none)) else (none)) else (none)) else (none)))))))) else (none)) = some r := H
    have A12 := Aside0.mk A120
    clear A120
    obtain ⟨y186, hy186⟩ : ∃ y_ : List Int, y_ = (([0] : List Int)) := ⟨_, rfl⟩
    replace H : (if 1 ≤ 281474976710656 then ((cost_Real.f k y186 (List.replicate 1 false)).bind fun bt192 => ((cost_Bytes.f k (([1, 1] : List Int)) (List.replicate 1 false)).bind fun bt200 => ((cost_Real.f k ([] : List Int) ([] : List Bool)).bind fun bt202 => ((cost_Bit.f k 1 true).bind fun bt204 => ((cost_Bit.f k 1 false).bind fun bt206 => ((bitloftlaw23_alive.f k).bind fun t208 => (if t208 = true then (if t159 = 2 then (if t161 = 2 then (if t163 = 0 then (if t162 = 2097152 then (if t165 = 2 then (if t167 = 2 then (if t169 = 2 then (if t171 = 2 then (if t173 = 2 then (if t175 = 2 then (if t177 = 0 then (if t176 = 65536 then (if t185 = 4 then (if bt192.2 = 2 then (if bt200.2 = 2 then (if bt202.2 = 0 then (if bt202.1 = 0 then (if bt204.2 = 0 then (if bt204.1 = 786432 then (if bt206.2 = 0 then ((bitloftref23_Logarithm.f k 4095).bind fun t209 => (some (bt206.1 == (wrap64 (786432 - t209))))) else (none)) else (none)) else (none)) else (none)) else (none)) else (none)) else (none)) else (none)) else (none)) else (none)) else (none)) else (none)) else (none)) else (none)) else (none)) else (none)) else (none)) else (none)) else (none)) else (none)) else (none)))))))) else (none)) = some r := by first | (rw [hy186]; with_reducible exact H) | (have H2_ := (Option.bind_some _ _).symm.trans H; rw [hy186]; with_reducible exact H2_) | (have H2_ := (Option.bind_some _ _).symm.trans H; with_reducible exact H2_) | with_reducible exact H | (rw [hy186]; exact H) | exact H
    have Ny186 := Aside0.mk hy186
    clear hy186
    by_cases c13 : 1 ≤ 281474976710656
    · rw [if_pos c13] at H
      have c13b0 := eq_true c13
      have c13b1 : decide (1 ≤ 281474976710656) = true := decide_eq_true c13
      clear c13
      obtain ⟨y189, hy189⟩ : ∃ y_ : List Bool, y_ = (List.replicate 1 false) := ⟨_, rfl⟩
      replace H : ((cost_Real.f k y186 y189).bind fun bt192 => ((cost_Bytes.f k (([1, 1] : List Int)) (List.replicate 1 false)).bind fun bt200 => ((cost_Real.f k ([] : List Int) ([] : List Bool)).bind fun bt202 => ((cost_Bit.f k 1 true).bind fun bt204 => ((cost_Bit.f k 1 false).bind fun bt206 => ((bitloftlaw23_alive.f k).bind fun t208 => (if t208 = true then (if t159 = 2 then (if t161 = 2 then (if t163 = 0 then (if t162 = 2097152 then (if t165 = 2 then (if t167 = 2 then (if t169 = 2 then (if t171 = 2 then (if t173 = 2 then (if t175 = 2 then (if t177 = 0 then (if t176 = 65536 then (if t185 = 4 then (if bt192.2 = 2 then (if bt200.2 = 2 then (if bt202.2 = 0 then (if bt202.1 = 0 then (if bt204.2 = 0 then (if bt204.1 = 786432 then (if bt206.2 = 0 then ((bitloftref23_Logarithm.f k 4095).bind fun t209 => (some (bt206.1 == (wrap64 (786432 - t209))))) else (none)) else (none)) else (none)) else (none)) else (none)) else (none)) else (none)) else (none)) else (none)) else (none)) else (none)) else (none)) else (none)) else (none)) else (none)) else (none)) else (none)) else (none)) else (none)) else (none)) else (none)))))))) = some r := by first | (rw [hy189]; with_reducible exact H) | (have H2_ := (Option.bind_some _ _).symm.trans H; rw [hy189]; with_reducible exact H2_) | (have H2_ := (Option.bind_some _ _).symm.trans H; with_reducible exact H2_) | with_reducible exact H | (rw [hy189]; exact H) | exact H
      have Ny189 := Aside0.mk hy189
      clear hy189
      replace H := Option.bind_eq_some_iff.mp H
      obtain ⟨⟨t192, t193⟩, A140, H⟩ := H
      replace H : ((cost_Bytes.f k (([1, 1] : List Int)) (List.replicate 1 false)).bind fun bt200 => ((cost_Real.f k ([] : List Int) ([] : List Bool)).bind fun bt202 => ((cost_Bit.f k 1 true).bind fun bt204 => ((cost_Bit.f k 1 false).bind fun bt206 => ((bitloftlaw23_alive.f k).bind fun t208 => (if t208 = true then (if t159 = 2 then (if t161 = 2 then (if t163 = 0 then (if t162 = 2097152 then (if t165 = 2 then (if t167 = 2 then (if t169 = 2 then (if t171 = 2 then (if t173 = 2 then (if t175 = 2 then (if t177 = 0 then (if t176 = 65536 then (if t185 = 4 then (if t193 = 2 then (if bt200.2 = 2 then (if bt202.2 = 0 then (if bt202.1 = 0 then (if bt204.2 = 0 then (if bt204.1 = 786432 then (if bt206.2 = 0 then ((bitloftref23_Logarithm.f k 4095).bind fun t209 => (some (bt206.1 == (wrap64 (786432 - t209))))) else (none)) else (none)) else (none)) else (none)) else (none)) else (none)) else (none)) else (none)) else (none)) else (none)) else (none)) else (none)) else (none)) else (none)) else (none)) else (none)) else (none)) else (none)) else (none)) else (none)) else (none))))))) = some r := H
      have A14 := Aside0.mk A140
      clear A140
      obtain ⟨y194, hy194⟩ : ∃ y_ : List Int, y_ = (([1, 1] : List Int)) := ⟨_, rfl⟩
      replace H : ((cost_Bytes.f k y194 (List.replicate 1 false)).bind fun bt200 => ((cost_Real.f k ([] : List Int) ([] : List Bool)).bind fun bt202 => ((cost_Bit.f k 1 true).bind fun bt204 => ((cost_Bit.f k 1 false).bind fun bt206 => ((bitloftlaw23_alive.f k).bind fun t208 => (if t208 = true then (if t159 = 2 then (if t161 = 2 then (if t163 = 0 then (if t162 = 2097152 then (if t165 = 2 then (if t167 = 2 then (if t169 = 2 then (if t171 = 2 then (if t173 = 2 then (if t175 = 2 then (if t177 = 0 then (if t176 = 65536 then (if t185 = 4 then (if t193 = 2 then (if bt200.2 = 2 then (if bt202.2 = 0 then (if bt202.1 = 0 then (if bt204.2 = 0 then (if bt204.1 = 786432 then (if bt206.2 = 0 then ((bitloftref23_Logarithm.f k 4095).bind fun t209 => (some (bt206.1 == (wrap64 (786432 - t209))))) else (none)) else (none)) else (none)) else (none)) else (none)) else (none)) else (none)) else (none)) else (none)) else (none)) else (none)) else (none)) else (none)) else (none)) else (none)) else (none)) else (none)) else (none)) else (none)) else (none)) else (none))))))) = some r := by first | (rw [hy194]; with_reducible exact H) | (have H2_ := (Option.bind_some _ _).symm.trans H; rw [hy194]; with_reducible exact H2_) | (have H2_ := (Option.bind_some _ _).symm.trans H; with_reducible exact H2_) | with_reducible exact H | (rw [hy194]; exact H) | exact H
      have Ny194 := Aside0.mk hy194
      clear hy194
      obtain ⟨y197, hy197⟩ : ∃ y_ : List Bool, y_ = (List.replicate 1 false) := ⟨_, rfl⟩
      replace H : ((cost_Bytes.f k y194 y197).bind fun bt200 => ((cost_Real.f k ([] : List Int) ([] : List Bool)).bind fun bt202 => ((cost_Bit.f k 1 true).bind fun bt204 => ((cost_Bit.f k 1 false).bind fun bt206 => ((bitloftlaw23_alive.f k).bind fun t208 => (if t208 = true then (if t159 = 2 then (if t161 = 2 then (if t163 = 0 then (if t162 = 2097152 then (if t165 = 2 then (if t167 = 2 then (if t169 = 2 then (if t171 = 2 then (if t173 = 2 then (if t175 = 2 then (if t177 = 0 then (if t176 = 65536 then (if t185 = 4 then (if t193 = 2 then (if bt200.2 = 2 then (if bt202.2 = 0 then (if bt202.1 = 0 then (if bt204.2 = 0 then (if bt204.1 = 786432 then (if bt206.2 = 0 then ((bitloftref23_Logarithm.f k 4095).bind fun t209 => (some (bt206.1 == (wrap64 (786432 - t209))))) else (none)) else (none)) else (none)) else (none)) else (none)) else (none)) else (none)) else (none)) else (none)) else (none)) else (none)) else (none)) else (none)) else (none)) else (none)) else (none)) else (none)) else (none)) else (none)) else (none)) else (none))))))) = some r := by first | (rw [hy197]; with_reducible exact H) | (have H2_ := (Option.bind_some _ _).symm.trans H; rw [hy197]; with_reducible exact H2_) | (have H2_ := (Option.bind_some _ _).symm.trans H; with_reducible exact H2_) | with_reducible exact H | (rw [hy197]; exact H) | exact H
      have Ny197 := Aside0.mk hy197
      clear hy197
      replace H := Option.bind_eq_some_iff.mp H
      obtain ⟨⟨t200, t201⟩, A150, H⟩ := H
      replace H : ((cost_Real.f k ([] : List Int) ([] : List Bool)).bind fun bt202 => ((cost_Bit.f k 1 true).bind fun bt204 => ((cost_Bit.f k 1 false).bind fun bt206 => ((bitloftlaw23_alive.f k).bind fun t208 => (if t208 = true then (if t159 = 2 then (if t161 = 2 then (if t163 = 0 then (if t162 = 2097152 then (if t165 = 2 then (if t167 = 2 then (if t169 = 2 then (if t171 = 2 then (if t173 = 2 then (if t175 = 2 then (if t177 = 0 then (if t176 = 65536 then (if t185 = 4 then (if t193 = 2 then (if t201 = 2 then (if bt202.2 = 0 then (if bt202.1 = 0 then (if bt204.2 = 0 then (if bt204.1 = 786432 then (if bt206.2 = 0 then ((bitloftref23_Logarithm.f k 4095).bind fun t209 => (some (bt206.1 == (wrap64 (786432 - t209))))) else (none)) else (none)) else (none)) else (none)) else (none)) else (none)) else (none)) else (none)) else (none)) else (none)) else (none)) else (none)) else (none)) else (none)) else (none)) else (none)) else (none)) else (none)) else (none)) else (none)) else (none)))))) = some r := H
      have A15 := Aside0.mk A150
      clear A150
      replace H := Option.bind_eq_some_iff.mp H
      obtain ⟨⟨t202, t203⟩, A160, H⟩ := H
      replace H : ((cost_Bit.f k 1 true).bind fun bt204 => ((cost_Bit.f k 1 false).bind fun bt206 => ((bitloftlaw23_alive.f k).bind fun t208 => (if t208 = true then (if t159 = 2 then (if t161 = 2 then (if t163 = 0 then (if t162 = 2097152 then (if t165 = 2 then (if t167 = 2 then (if t169 = 2 then (if t171 = 2 then (if t173 = 2 then (if t175 = 2 then (if t177 = 0 then (if t176 = 65536 then (if t185 = 4 then (if t193 = 2 then (if t201 = 2 then (if t203 = 0 then (if t202 = 0 then (if bt204.2 = 0 then (if bt204.1 = 786432 then (if bt206.2 = 0 then ((bitloftref23_Logarithm.f k 4095).bind fun t209 => (some (bt206.1 == (wrap64 (786432 - t209))))) else (none)) else (none)) else (none)) else (none)) else (none)) else (none)) else (none)) else (none)) else (none)) else (none)) else (none)) else (none)) else (none)) else (none)) else (none)) else (none)) else (none)) else (none)) else (none)) else (none)) else (none))))) = some r := H
      have A16 := Aside0.mk A160
      clear A160
      replace H := Option.bind_eq_some_iff.mp H
      obtain ⟨⟨t204, t205⟩, A170, H⟩ := H
      replace H : ((cost_Bit.f k 1 false).bind fun bt206 => ((bitloftlaw23_alive.f k).bind fun t208 => (if t208 = true then (if t159 = 2 then (if t161 = 2 then (if t163 = 0 then (if t162 = 2097152 then (if t165 = 2 then (if t167 = 2 then (if t169 = 2 then (if t171 = 2 then (if t173 = 2 then (if t175 = 2 then (if t177 = 0 then (if t176 = 65536 then (if t185 = 4 then (if t193 = 2 then (if t201 = 2 then (if t203 = 0 then (if t202 = 0 then (if t205 = 0 then (if t204 = 786432 then (if bt206.2 = 0 then ((bitloftref23_Logarithm.f k 4095).bind fun t209 => (some (bt206.1 == (wrap64 (786432 - t209))))) else (none)) else (none)) else (none)) else (none)) else (none)) else (none)) else (none)) else (none)) else (none)) else (none)) else (none)) else (none)) else (none)) else (none)) else (none)) else (none)) else (none)) else (none)) else (none)) else (none)) else (none)))) = some r := H
      have A17 := Aside0.mk A170
      clear A170
      replace H := Option.bind_eq_some_iff.mp H
      obtain ⟨⟨t206, t207⟩, A180, H⟩ := H
      replace H : ((bitloftlaw23_alive.f k).bind fun t208 => (if t208 = true then (if t159 = 2 then (if t161 = 2 then (if t163 = 0 then (if t162 = 2097152 then (if t165 = 2 then (if t167 = 2 then (if t169 = 2 then (if t171 = 2 then (if t173 = 2 then (if t175 = 2 then (if t177 = 0 then (if t176 = 65536 then (if t185 = 4 then (if t193 = 2 then (if t201 = 2 then (if t203 = 0 then (if t202 = 0 then (if t205 = 0 then (if t204 = 786432 then (if t207 = 0 then ((bitloftref23_Logarithm.f k 4095).bind fun t209 => (some (t206 == (wrap64 (786432 - t209))))) else (none)) else (none)) else (none)) else (none)) else (none)) else (none)) else (none)) else (none)) else (none)) else (none)) else (none)) else (none)) else (none)) else (none)) else (none)) else (none)) else (none)) else (none)) else (none)) else (none)) else (none))) = some r := H
      have A18 := Aside0.mk A180
      clear A180
      replace H := Option.bind_eq_some_iff.mp H
      obtain ⟨t208, A190, H⟩ := H
      replace H : (if t208 = true then (if t159 = 2 then (if t161 = 2 then (if t163 = 0 then (if t162 = 2097152 then (if t165 = 2 then (if t167 = 2 then (if t169 = 2 then (if t171 = 2 then (if t173 = 2 then (if t175 = 2 then (if t177 = 0 then (if t176 = 65536 then (if t185 = 4 then (if t193 = 2 then (if t201 = 2 then (if t203 = 0 then (if t202 = 0 then (if t205 = 0 then (if t204 = 786432 then (if t207 = 0 then ((bitloftref23_Logarithm.f k 4095).bind fun t209 => (some (t206 == (wrap64 (786432 - t209))))) else (none)) else (none)) else (none)) else (none)) else (none)) else (none)) else (none)) else (none)) else (none)) else (none)) else (none)) else (none)) else (none)) else (none)) else (none)) else (none)) else (none)) else (none)) else (none)) else (none)) else (none)) = some r := H
      have A19 := Aside0.mk A190
      clear A190
      by_cases c20 : t208 = true
      · subst c20
        have H1 : (if t159 = 2 then (if t161 = 2 then (if t163 = 0 then (if t162 = 2097152 then (if t165 = 2 then (if t167 = 2 then (if t169 = 2 then (if t171 = 2 then (if t173 = 2 then (if t175 = 2 then (if t177 = 0 then (if t176 = 65536 then (if t185 = 4 then (if t193 = 2 then (if t201 = 2 then (if t203 = 0 then (if t202 = 0 then (if t205 = 0 then (if t204 = 786432 then (if t207 = 0 then ((bitloftref23_Logarithm.f k 4095).bind fun t209 => (some (t206 == (wrap64 (786432 - t209))))) else (none)) else (none)) else (none)) else (none)) else (none)) else (none)) else (none)) else (none)) else (none)) else (none)) else (none)) else (none)) else (none)) else (none)) else (none)) else (none)) else (none)) else (none)) else (none)) else (none)) = some r := by rw [if_pos rfl] at H; exact H
        clear H
        have H := H1
        clear H1
        by_cases c21 : t159 = 2
        · rw [if_pos c21] at H
          have c21b0 : (t159 == 2) = true := beq_iff_eq.mpr c21
          have c21b1 : (t159 != 2) = false := bne_eq_false_iff_eq.mpr c21
          clear c21
          by_cases c22 : t161 = 2
          · rw [if_pos c22] at H
            have c22b0 : (t161 == 2) = true := beq_iff_eq.mpr c22
            have c22b1 : (t161 != 2) = false := bne_eq_false_iff_eq.mpr c22
            clear c22
            by_cases c23 : t163 = 0
            · rw [if_pos c23] at H
              have c23b0 : (t163 == 0) = true := beq_iff_eq.mpr c23
              have c23b1 : (t163 != 0) = false := bne_eq_false_iff_eq.mpr c23
              clear c23
              by_cases c24 : t162 = 2097152
              · rw [if_pos c24] at H
                have c24b0 : (t162 == 2097152) = true := beq_iff_eq.mpr c24
                have c24b1 : (t162 != 2097152) = false := bne_eq_false_iff_eq.mpr c24
                clear c24
                by_cases c25 : t165 = 2
                · rw [if_pos c25] at H
                  have c25b0 : (t165 == 2) = true := beq_iff_eq.mpr c25
                  have c25b1 : (t165 != 2) = false := bne_eq_false_iff_eq.mpr c25
                  clear c25
                  by_cases c26 : t167 = 2
                  · rw [if_pos c26] at H
                    have c26b0 : (t167 == 2) = true := beq_iff_eq.mpr c26
                    have c26b1 : (t167 != 2) = false := bne_eq_false_iff_eq.mpr c26
                    clear c26
                    by_cases c27 : t169 = 2
                    · rw [if_pos c27] at H
                      have c27b0 : (t169 == 2) = true := beq_iff_eq.mpr c27
                      have c27b1 : (t169 != 2) = false := bne_eq_false_iff_eq.mpr c27
                      clear c27
                      by_cases c28 : t171 = 2
                      · rw [if_pos c28] at H
                        have c28b0 : (t171 == 2) = true := beq_iff_eq.mpr c28
                        have c28b1 : (t171 != 2) = false := bne_eq_false_iff_eq.mpr c28
                        clear c28
                        by_cases c29 : t173 = 2
                        · rw [if_pos c29] at H
                          have c29b0 : (t173 == 2) = true := beq_iff_eq.mpr c29
                          have c29b1 : (t173 != 2) = false := bne_eq_false_iff_eq.mpr c29
                          clear c29
                          by_cases c30 : t175 = 2
                          · rw [if_pos c30] at H
                            have c30b0 : (t175 == 2) = true := beq_iff_eq.mpr c30
                            have c30b1 : (t175 != 2) = false := bne_eq_false_iff_eq.mpr c30
                            clear c30
                            by_cases c31 : t177 = 0
                            · rw [if_pos c31] at H
                              have c31b0 : (t177 == 0) = true := beq_iff_eq.mpr c31
                              have c31b1 : (t177 != 0) = false := bne_eq_false_iff_eq.mpr c31
                              clear c31
                              by_cases c32 : t176 = 65536
                              · rw [if_pos c32] at H
                                have c32b0 : (t176 == 65536) = true := beq_iff_eq.mpr c32
                                have c32b1 : (t176 != 65536) = false := bne_eq_false_iff_eq.mpr c32
                                clear c32
                                by_cases c33 : t185 = 4
                                · rw [if_pos c33] at H
                                  have c33b0 : (t185 == 4) = true := beq_iff_eq.mpr c33
                                  have c33b1 : (t185 != 4) = false := bne_eq_false_iff_eq.mpr c33
                                  clear c33
                                  by_cases c34 : t193 = 2
                                  · rw [if_pos c34] at H
                                    have c34b0 : (t193 == 2) = true := beq_iff_eq.mpr c34
                                    have c34b1 : (t193 != 2) = false := bne_eq_false_iff_eq.mpr c34
                                    clear c34
                                    by_cases c35 : t201 = 2
                                    · rw [if_pos c35] at H
                                      have c35b0 : (t201 == 2) = true := beq_iff_eq.mpr c35
                                      have c35b1 : (t201 != 2) = false := bne_eq_false_iff_eq.mpr c35
                                      clear c35
                                      by_cases c36 : t203 = 0
                                      · rw [if_pos c36] at H
                                        have c36b0 : (t203 == 0) = true := beq_iff_eq.mpr c36
                                        have c36b1 : (t203 != 0) = false := bne_eq_false_iff_eq.mpr c36
                                        clear c36
                                        by_cases c37 : t202 = 0
                                        · rw [if_pos c37] at H
                                          have c37b0 : (t202 == 0) = true := beq_iff_eq.mpr c37
                                          have c37b1 : (t202 != 0) = false := bne_eq_false_iff_eq.mpr c37
                                          clear c37
                                          by_cases c38 : t205 = 0
                                          · rw [if_pos c38] at H
                                            have c38b0 : (t205 == 0) = true := beq_iff_eq.mpr c38
                                            have c38b1 : (t205 != 0) = false := bne_eq_false_iff_eq.mpr c38
                                            clear c38
                                            by_cases c39 : t204 = 786432
                                            · rw [if_pos c39] at H
                                              have c39b0 : (t204 == 786432) = true := beq_iff_eq.mpr c39
                                              have c39b1 : (t204 != 786432) = false := bne_eq_false_iff_eq.mpr c39
                                              clear c39
                                              by_cases c40 : t207 = 0
                                              · rw [if_pos c40] at H
                                                have c40b0 : (t207 == 0) = true := beq_iff_eq.mpr c40
                                                have c40b1 : (t207 != 0) = false := bne_eq_false_iff_eq.mpr c40
                                                clear c40
                                                replace H := Option.bind_eq_some_iff.mp H
                                                obtain ⟨t209, A410, H⟩ := H
                                                replace H : (some (t206 == (wrap64 (786432 - t209)))) = some r := H
                                                have A41 := Aside0.mk A410
                                                clear A410
                                                obtain rfl := Option.some.inj H
                                                go_enter Try.func21, Try.ntmps21
                                                go_wp2_with (first | ((with_reducible refine gate_callee (f := 23) rfl ?_); refine goesL_ (some 34) rfl rfl Try.func23 (by kernel_rfl) rfl #[.int .u64 0] rfl (by (try simp only [List.map_toArray, List.map_cons, List.map_nil]); first | done | rfl | (simp only [List.length_drop, List.length_take]; rfl)) ?_; (with_reducible refine (cost_Log.calls k 0 t158 t159 _ A1.out).mono ?_); rintro e w' ⟨rfl, ⟨nd, rfl⟩⟩; refine ⟨_, rfl, ?_⟩) | ((with_reducible refine gate_callee (f := 23) rfl ?_); refine goesL_ (some 38) rfl rfl Try.func23 (by kernel_rfl) rfl #[.int .u64 4294967297] rfl (by (try simp only [List.map_toArray, List.map_cons, List.map_nil]); first | done | rfl | (simp only [List.length_drop, List.length_take]; rfl)) ?_; (with_reducible refine (cost_Log.calls k 4294967297 t160 t161 _ A2.out).mono ?_); rintro e w' ⟨rfl, ⟨nd, rfl⟩⟩; refine ⟨_, rfl, ?_⟩) | ((with_reducible refine gate_callee (f := 23) rfl ?_); refine goesL_ (some 42) rfl rfl Try.func23 (by kernel_rfl) rfl #[.int .u64 4294967296] rfl (by (try simp only [List.map_toArray, List.map_cons, List.map_nil]); first | done | rfl | (simp only [List.length_drop, List.length_take]; rfl)) ?_; (with_reducible refine (cost_Log.calls k 4294967296 t162 t163 _ A3.out).mono ?_); rintro e w' ⟨rfl, ⟨nd, rfl⟩⟩; refine ⟨_, rfl, ?_⟩) | ((with_reducible refine gate_callee (f := 43) rfl ?_); refine goesL_ (some 46) rfl rfl Try.func43 (by kernel_rfl) rfl #[.int .i64 0, .bool true] rfl (by (try simp only [List.map_toArray, List.map_cons, List.map_nil]); first | done | rfl | (simp only [List.length_drop, List.length_take]; rfl)) ?_; (with_reducible refine (cost_Bit.calls k 0 true t164 t165 _ A4.out).mono ?_); rintro e w' ⟨rfl, ⟨nd, rfl⟩⟩; refine ⟨_, rfl, ?_⟩) | ((with_reducible refine gate_callee (f := 43) rfl ?_); refine goesL_ (some 50) rfl rfl Try.func43 (by kernel_rfl) rfl #[.int .i64 4096, .bool false] rfl (by (try simp only [List.map_toArray, List.map_cons, List.map_nil]); first | done | rfl | (simp only [List.length_drop, List.length_take]; rfl)) ?_; (with_reducible refine (cost_Bit.calls k 4096 false t166 t167 _ A5.out).mono ?_); rintro e w' ⟨rfl, ⟨nd, rfl⟩⟩; refine ⟨_, rfl, ?_⟩) | ((with_reducible refine gate_callee (f := 45) rfl ?_); refine goesL_ (some 54) rfl rfl Try.func45 (by kernel_rfl) rfl #[.int .u32 5, .int .u32 5, .int .i64 1, .bool true] rfl (by (try simp only [List.map_toArray, List.map_cons, List.map_nil]); first | done | rfl | (simp only [List.length_drop, List.length_take]; rfl)) ?_; (with_reducible refine (cost_Step.calls k 5 5 1 true t168 t169 _ A6.out).mono ?_); rintro e w' ⟨rfl, ⟨nd, rfl⟩⟩; refine ⟨_, rfl, ?_⟩) | ((with_reducible refine gate_callee (f := 45) rfl ?_); refine goesL_ (some 58) rfl rfl Try.func45 (by kernel_rfl) rfl #[.int .u32 6, .int .u32 5, .int .i64 1, .bool true] rfl (by (try simp only [List.map_toArray, List.map_cons, List.map_nil]); first | done | rfl | (simp only [List.length_drop, List.length_take]; rfl)) ?_; (with_reducible refine (cost_Step.calls k 6 5 1 true t170 t171 _ A7.out).mono ?_); rintro e w' ⟨rfl, ⟨nd, rfl⟩⟩; refine ⟨_, rfl, ?_⟩) | ((with_reducible refine gate_callee (f := 45) rfl ?_); refine goesL_ (some 62) rfl rfl Try.func45 (by kernel_rfl) rfl #[.int .u32 5, .int .u32 6, .int .i64 0, .bool true] rfl (by (try simp only [List.map_toArray, List.map_cons, List.map_nil]); first | done | rfl | (simp only [List.length_drop, List.length_take]; rfl)) ?_; (with_reducible refine (cost_Step.calls k 5 6 0 true t172 t173 _ A8.out).mono ?_); rintro e w' ⟨rfl, ⟨nd, rfl⟩⟩; refine ⟨_, rfl, ?_⟩) | ((with_reducible refine gate_callee (f := 45) rfl ?_); refine goesL_ (some 66) rfl rfl Try.func45 (by kernel_rfl) rfl #[.int .u32 5, .int .u32 6, .int .i64 4096, .bool true] rfl (by (try simp only [List.map_toArray, List.map_cons, List.map_nil]); first | done | rfl | (simp only [List.length_drop, List.length_take]; rfl)) ?_; (with_reducible refine (cost_Step.calls k 5 6 4096 true t174 t175 _ A9.out).mono ?_); rintro e w' ⟨rfl, ⟨nd, rfl⟩⟩; refine ⟨_, rfl, ?_⟩) | ((with_reducible refine gate_callee (f := 45) rfl ?_); refine goesL_ (some 70) rfl rfl Try.func45 (by kernel_rfl) rfl #[.int .u32 5, .int .u32 6, .int .i64 1, .bool true] rfl (by (try simp only [List.map_toArray, List.map_cons, List.map_nil]); first | done | rfl | (simp only [List.length_drop, List.length_take]; rfl)) ?_; (with_reducible refine (cost_Step.calls k 5 6 1 true t176 t177 _ A10.out).mono ?_); rintro e w' ⟨rfl, ⟨nd, rfl⟩⟩; refine ⟨_, rfl, ?_⟩) | ((with_reducible refine gate_dst (N := 74) rfl ?_); refine Kd.R_lit (Kd.int .i64) _ 3 ?hg (N := 74) ?hd (xs := ([0] : List Int)) (inner := [.int .i64 0]) (ok := fun _ => True) (okp := fun _ => True) ?hr ?hp (fun _ hk => hk) trivial (Below.refl _ _) (Nat.le_refl _) (by simp) ?_; (case hd => rfl); (case hg => rfl); (case hr => first | (go_simp; done) | (go_simp; rfl)); (case hp => exact (Reps.one (show Kd.M (Kd.int .i64) _ _ _ 0 [.int .i64 0] from rfl) (Reps.none _ _))); intro v179 w42 ho43 hb hg_ hnew_; clear hg_ hnew_; (first | rw [← Ny178.out] at ho43 | (simp only [Int.reduceToNat] at ho43; rw [← Ny178.out] at ho43)); have n0_ := Aside0.mk (Kd.R_lower ho43 (below_size (by repeat (first | (with_reducible first | exact HB.out | apply below_alloc | apply pw_below_drewN | apply below_drew1) | exact HB.out)))); have n1_ := Aside0.mk (below_step (by repeat (first | (with_reducible first | exact HB.out | apply below_alloc | apply pw_below_drewN | apply below_drew1) | exact HB.out)) hb); clear HB; have HO180 := n0_; have HB := n1_; clear n0_ n1_; clear hb ho43) | ((with_reducible refine gate_dst (N := 75) rfl ?_); refine Kd.R_make Kd.bool _ 4 rfl (N := 75) rfl 29 _ _ rfl 2001 rfl rfl Try.underlying29 (.bool false) 1 info4 rfl (by decide) (by omega) false (ok := fun _ => True) (okp := fun _ => True) rfl (fun _ hk => hk) trivial (by omega) (by omega) (Below.refl _ _) (Nat.le_refl _) ?_; intro v182 w44 ho45 hb hg_ hnew_; clear hg_ hnew_; (first | rw [← Ny181.out] at ho45 | (simp only [Int.reduceToNat] at ho45; rw [← Ny181.out] at ho45)); have n0_ := Aside0.mk (Kd.R_below (by (with_reducible repeat (first | apply Kd.R_alloc | apply Kd.R_drewN | apply Kd.R_drew)); exact HO180.out) hb); have n1_ := Aside0.mk (Kd.R_lower ho45 (below_size (by repeat (first | (with_reducible first | exact HB.out | apply below_alloc | apply pw_below_drewN | apply below_drew1) | exact HB.out)))); have n2_ := Aside0.mk (below_step (by repeat (first | (with_reducible first | exact HB.out | apply below_alloc | apply pw_below_drewN | apply below_drew1) | exact HB.out)) hb); clear HO180; clear HB; have HO180 := n0_; have HO183 := n1_; have HB := n2_; clear n0_ n1_ n2_; clear hb ho45; obtain ⟨Ao46, co46, eo46⟩ := Kd.R_slice HO180.out; subst eo46; obtain ⟨Ao47, co47, eo47⟩ := Kd.R_slice HO183.out; subst eo47) | ((with_reducible refine gate_callee (f := 61) rfl ?_); refine goesL_ (some 76) rfl rfl Try.func61 (by kernel_rfl) rfl #[.slice Ao46 y178.length co46, .slice Ao47 y181.length co47] rfl (by (try simp only [List.map_toArray, List.map_cons, List.map_nil]); first | done | rfl | (simp only [List.length_drop, List.length_take]; rfl)) ?_; (with_reducible refine (cost_Ideal.calls k _ _ y178 _ _ y181 t184 t185 _ ?side1 ?side2 ?side3 ?side4 A12.out).mono ?_); (case side1 => repeat (first | exact (Kd.R_reads' HO180.out).2.2 | (with_reducible refine Kd.C_alloc ?_ _) | (with_reducible refine Kd.C_drewN ?_ _) | (with_reducible refine Kd.C_drew ?_))); (case side2 => exact (Kd.R_reads' HO180.out).2.1); (case side3 => repeat (first | exact (Kd.R_reads' HO183.out).2.2 | (with_reducible refine Kd.C_alloc ?_ _) | (with_reducible refine Kd.C_drewN ?_ _) | (with_reducible refine Kd.C_drew ?_))); (case side4 => exact (Kd.R_reads' HO183.out).2.1); rintro e w' ⟨rfl, ⟨nd, rfl⟩⟩; refine ⟨_, rfl, ?_⟩) | ((with_reducible refine gate_dst (N := 80) rfl ?_); refine Kd.R_lit (Kd.int .i64) _ 3 ?hg (N := 80) ?hd (xs := ([0] : List Int)) (inner := [.int .i64 0]) (ok := fun _ => True) (okp := fun _ => True) ?hr ?hp (fun _ hk => hk) trivial (Below.refl _ _) (Nat.le_refl _) (by simp) ?_; (case hd => rfl); (case hg => rfl); (case hr => first | (go_simp; done) | (go_simp; rfl)); (case hp => exact (Reps.one (show Kd.M (Kd.int .i64) _ _ _ 0 [.int .i64 0] from rfl) (Reps.none _ _))); intro v187 w48 ho49 hb hg_ hnew_; clear hg_ hnew_; (first | rw [← Ny186.out] at ho49 | (simp only [Int.reduceToNat] at ho49; rw [← Ny186.out] at ho49)); have n0_ := Aside0.mk (Kd.R_elder' (by (with_reducible repeat (first | apply Kd.R_alloc | apply Kd.R_drewN | apply Kd.R_drew)); exact HO180.out) (Kd.R_base ho49) hb); have n1_ := Aside0.mk (Kd.R_below (by (with_reducible repeat (first | apply Kd.R_alloc | apply Kd.R_drewN | apply Kd.R_drew)); exact HO183.out) hb); have n2_ := Aside0.mk (Kd.R_lower (Kd.R_new' ho49 (Kd.R_lt (by (with_reducible repeat (first | apply Kd.R_alloc | apply Kd.R_drewN | apply Kd.R_drew)); exact HO180.out))) (below_size (by repeat (first | (with_reducible first | exact HB.out | apply below_alloc | apply pw_below_drewN | apply below_drew1) | exact HB.out)))); have n3_ := Aside0.mk (below_step (by repeat (first | (with_reducible first | exact HB.out | apply below_alloc | apply pw_below_drewN | apply below_drew1) | exact HB.out)) hb); clear HO180; clear HO183; clear HB; have HO180 := n0_; have HO183 := n1_; have HO188 := n2_; have HB := n3_; clear n0_ n1_ n2_ n3_; clear hb ho49) | ((with_reducible refine gate_dst (N := 81) rfl ?_); refine Kd.R_make Kd.bool _ 4 rfl (N := 81) rfl 29 _ _ rfl 1 rfl rfl Try.underlying29 (.bool false) 1 info4 rfl (by decide) (by omega) false (ok := fun _ => True) (okp := fun _ => True) rfl (fun _ hk => hk) trivial (by omega) (by omega) (Below.refl _ _) (Nat.le_refl _) ?_; intro v190 w50 ho51 hb hg_ hnew_; clear hg_ hnew_; (first | rw [← Ny189.out] at ho51 | (simp only [Int.reduceToNat] at ho51; rw [← Ny189.out] at ho51)); have n0_ := Aside0.mk (Kd.R_below (by (with_reducible repeat (first | apply Kd.R_alloc | apply Kd.R_drewN | apply Kd.R_drew)); exact HO180.out) hb); have n1_ := Aside0.mk (Kd.R_elder' (by (with_reducible repeat (first | apply Kd.R_alloc | apply Kd.R_drewN | apply Kd.R_drew)); exact HO183.out) (Kd.R_base ho51) hb); have n2_ := Aside0.mk (Kd.R_below (by (with_reducible repeat (first | apply Kd.R_alloc | apply Kd.R_drewN | apply Kd.R_drew)); exact HO188.out) hb); have n3_ := Aside0.mk (Kd.R_lower (Kd.R_new' ho51 (Kd.R_lt (by (with_reducible repeat (first | apply Kd.R_alloc | apply Kd.R_drewN | apply Kd.R_drew)); exact HO183.out))) (below_size (by repeat (first | (with_reducible first | exact HB.out | apply below_alloc | apply pw_below_drewN | apply below_drew1) | exact HB.out)))); have n4_ := Aside0.mk (below_step (by repeat (first | (with_reducible first | exact HB.out | apply below_alloc | apply pw_below_drewN | apply below_drew1) | exact HB.out)) hb); clear HO180; clear HO183; clear HO188; clear HB; have HO180 := n0_; have HO183 := n1_; have HO188 := n2_; have HO191 := n3_; have HB := n4_; clear n0_ n1_ n2_ n3_ n4_; clear hb ho51; obtain ⟨Ao52, co52, eo52⟩ := Kd.R_slice HO188.out; subst eo52; obtain ⟨Ao53, co53, eo53⟩ := Kd.R_slice HO191.out; subst eo53) | ((with_reducible refine gate_callee (f := 63) rfl ?_); refine goesL_ (some 82) rfl rfl Try.func63 (by kernel_rfl) rfl #[.slice Ao52 y186.length co52, .slice Ao53 y189.length co53] rfl (by (try simp only [List.map_toArray, List.map_cons, List.map_nil]); first | done | rfl | (simp only [List.length_drop, List.length_take]; rfl)) ?_; (with_reducible refine (cost_Real.calls k _ _ y186 _ _ y189 t192 t193 _ ?side1 ?side2 ?side3 ?side4 A14.out).mono ?_); (case side1 => repeat (first | exact (Kd.R_reads' HO188.out).2.2 | (with_reducible refine Kd.C_alloc ?_ _) | (with_reducible refine Kd.C_drewN ?_ _) | (with_reducible refine Kd.C_drew ?_))); (case side2 => exact (Kd.R_reads' HO188.out).2.1); (case side3 => repeat (first | exact (Kd.R_reads' HO191.out).2.2 | (with_reducible refine Kd.C_alloc ?_ _) | (with_reducible refine Kd.C_drewN ?_ _) | (with_reducible refine Kd.C_drew ?_))); (case side4 => exact (Kd.R_reads' HO191.out).2.1); rintro e w54 ⟨rfl, hb⟩; refine ⟨_, rfl, ?_⟩; have n0_ := Aside0.mk (Kd.R_below (by (with_reducible repeat (first | apply Kd.R_alloc | apply Kd.R_drewN | apply Kd.R_drew)); exact HO180.out) hb); have n1_ := Aside0.mk (Kd.R_below (by (with_reducible repeat (first | apply Kd.R_alloc | apply Kd.R_drewN | apply Kd.R_drew)); exact HO183.out) hb); have n2_ := Aside0.mk (Kd.R_below (by (with_reducible repeat (first | apply Kd.R_alloc | apply Kd.R_drewN | apply Kd.R_drew)); exact HO188.out) hb); have n3_ := Aside0.mk (Kd.R_below (by (with_reducible repeat (first | apply Kd.R_alloc | apply Kd.R_drewN | apply Kd.R_drew)); exact HO191.out) hb); have n4_ := Aside0.mk (below_step (by repeat (first | (with_reducible first | exact HB.out | apply below_alloc | apply pw_below_drewN | apply below_drew1) | exact HB.out)) hb); clear HO180; clear HO183; clear HO188; clear HO191; clear HB; have HO180 := n0_; have HO183 := n1_; have HO188 := n2_; have HO191 := n3_; have HB := n4_; clear n0_ n1_ n2_ n3_ n4_; (try clear hb); (try clear hb2); (try clear hk); (try clear hi)) | ((with_reducible refine gate_dst (N := 86) rfl ?_); refine Kd.R_lit (Kd.int .i64) _ 3 ?hg (N := 86) ?hd (xs := ([1, 1] : List Int)) (inner := [.int .i64 1, .int .i64 1]) (ok := fun _ => True) (okp := fun _ => True) ?hr ?hp (fun _ hk => hk) trivial (Below.refl _ _) (Nat.le_refl _) (by simp) ?_; (case hd => rfl); (case hg => rfl); (case hr => first | (go_simp; done) | (go_simp; rfl)); (case hp => exact (Reps.one (show Kd.M (Kd.int .i64) _ _ _ 1 [.int .i64 1] from rfl) (Reps.one (show Kd.M (Kd.int .i64) _ _ _ 1 [.int .i64 1] from rfl) (Reps.none _ _)))); intro v195 w55 ho56 hb hg_ hnew_; clear hg_ hnew_; (first | rw [← Ny194.out] at ho56 | (simp only [Int.reduceToNat] at ho56; rw [← Ny194.out] at ho56)); have n0_ := Aside0.mk (Kd.R_elder' (by (with_reducible repeat (first | apply Kd.R_alloc | apply Kd.R_drewN | apply Kd.R_drew)); exact HO180.out) (Kd.R_base ho56) hb); have n1_ := Aside0.mk (Kd.R_below (by (with_reducible repeat (first | apply Kd.R_alloc | apply Kd.R_drewN | apply Kd.R_drew)); exact HO183.out) hb); have n2_ := Aside0.mk (Kd.R_elder' (by (with_reducible repeat (first | apply Kd.R_alloc | apply Kd.R_drewN | apply Kd.R_drew)); exact HO188.out) (Kd.R_base ho56) hb); have n3_ := Aside0.mk (Kd.R_below (by (with_reducible repeat (first | apply Kd.R_alloc | apply Kd.R_drewN | apply Kd.R_drew)); exact HO191.out) hb); have n4_ := Aside0.mk (Kd.R_lower (Kd.R_new' (Kd.R_new' ho56 (Kd.R_lt (by (with_reducible repeat (first | apply Kd.R_alloc | apply Kd.R_drewN | apply Kd.R_drew)); exact HO180.out))) (Kd.R_lt (by (with_reducible repeat (first | apply Kd.R_alloc | apply Kd.R_drewN | apply Kd.R_drew)); exact HO188.out))) (below_size (by repeat (first | (with_reducible first | exact HB.out | apply below_alloc | apply pw_below_drewN | apply below_drew1) | exact HB.out)))); have n5_ := Aside0.mk (below_step (by repeat (first | (with_reducible first | exact HB.out | apply below_alloc | apply pw_below_drewN | apply below_drew1) | exact HB.out)) hb); clear HO180; clear HO183; clear HO188; clear HO191; clear HB; have HO180 := n0_; have HO183 := n1_; have HO188 := n2_; have HO191 := n3_; have HO196 := n4_; have HB := n5_; clear n0_ n1_ n2_ n3_ n4_ n5_; clear hb ho56) | ((with_reducible refine gate_dst (N := 87) rfl ?_); refine Kd.R_make Kd.bool _ 4 rfl (N := 87) rfl 29 _ _ rfl 1 rfl rfl Try.underlying29 (.bool false) 1 info4 rfl (by decide) (by omega) false (ok := fun _ => True) (okp := fun _ => True) rfl (fun _ hk => hk) trivial (by omega) (by omega) (Below.refl _ _) (Nat.le_refl _) ?_; intro v198 w57 ho58 hb hg_ hnew_; clear hg_ hnew_; (first | rw [← Ny197.out] at ho58 | (simp only [Int.reduceToNat] at ho58; rw [← Ny197.out] at ho58)); have n0_ := Aside0.mk (Kd.R_below (by (with_reducible repeat (first | apply Kd.R_alloc | apply Kd.R_drewN | apply Kd.R_drew)); exact HO180.out) hb); have n1_ := Aside0.mk (Kd.R_elder' (by (with_reducible repeat (first | apply Kd.R_alloc | apply Kd.R_drewN | apply Kd.R_drew)); exact HO183.out) (Kd.R_base ho58) hb); have n2_ := Aside0.mk (Kd.R_below (by (with_reducible repeat (first | apply Kd.R_alloc | apply Kd.R_drewN | apply Kd.R_drew)); exact HO188.out) hb); have n3_ := Aside0.mk (Kd.R_elder' (by (with_reducible repeat (first | apply Kd.R_alloc | apply Kd.R_drewN | apply Kd.R_drew)); exact HO191.out) (Kd.R_base ho58) hb); have n4_ := Aside0.mk (Kd.R_below (by (with_reducible repeat (first | apply Kd.R_alloc | apply Kd.R_drewN | apply Kd.R_drew)); exact HO196.out) hb); have n5_ := Aside0.mk (Kd.R_lower (Kd.R_new' (Kd.R_new' ho58 (Kd.R_lt (by (with_reducible repeat (first | apply Kd.R_alloc | apply Kd.R_drewN | apply Kd.R_drew)); exact HO183.out))) (Kd.R_lt (by (with_reducible repeat (first | apply Kd.R_alloc | apply Kd.R_drewN | apply Kd.R_drew)); exact HO191.out))) (below_size (by repeat (first | (with_reducible first | exact HB.out | apply below_alloc | apply pw_below_drewN | apply below_drew1) | exact HB.out)))); have n6_ := Aside0.mk (below_step (by repeat (first | (with_reducible first | exact HB.out | apply below_alloc | apply pw_below_drewN | apply below_drew1) | exact HB.out)) hb); clear HO180; clear HO183; clear HO188; clear HO191; clear HO196; clear HB; have HO180 := n0_; have HO183 := n1_; have HO188 := n2_; have HO191 := n3_; have HO196 := n4_; have HO199 := n5_; have HB := n6_; clear n0_ n1_ n2_ n3_ n4_ n5_ n6_; clear hb ho58; obtain ⟨Ao59, co59, eo59⟩ := Kd.R_slice HO196.out; subst eo59; obtain ⟨Ao60, co60, eo60⟩ := Kd.R_slice HO199.out; subst eo60) | ((with_reducible refine gate_callee (f := 65) rfl ?_); refine goesL_ (some 88) rfl rfl Try.func65 (by kernel_rfl) rfl #[.slice Ao59 y194.length co59, .slice Ao60 y197.length co60] rfl (by (try simp only [List.map_toArray, List.map_cons, List.map_nil]); first | done | rfl | (simp only [List.length_drop, List.length_take]; rfl)) ?_; (with_reducible refine (cost_Bytes.calls k _ _ y194 _ _ y197 t200 t201 _ ?side1 ?side2 ?side3 ?side4 A15.out).mono ?_); (case side1 => repeat (first | exact (Kd.R_reads' HO196.out).2.2 | (with_reducible refine Kd.C_alloc ?_ _) | (with_reducible refine Kd.C_drewN ?_ _) | (with_reducible refine Kd.C_drew ?_))); (case side2 => exact (Kd.R_reads' HO196.out).2.1); (case side3 => repeat (first | exact (Kd.R_reads' HO199.out).2.2 | (with_reducible refine Kd.C_alloc ?_ _) | (with_reducible refine Kd.C_drewN ?_ _) | (with_reducible refine Kd.C_drew ?_))); (case side4 => exact (Kd.R_reads' HO199.out).2.1); rintro e w61 ⟨rfl, hb⟩; refine ⟨_, rfl, ?_⟩; have n0_ := Aside0.mk (Kd.R_below (by (with_reducible repeat (first | apply Kd.R_alloc | apply Kd.R_drewN | apply Kd.R_drew)); exact HO180.out) hb); have n1_ := Aside0.mk (Kd.R_below (by (with_reducible repeat (first | apply Kd.R_alloc | apply Kd.R_drewN | apply Kd.R_drew)); exact HO183.out) hb); have n2_ := Aside0.mk (Kd.R_below (by (with_reducible repeat (first | apply Kd.R_alloc | apply Kd.R_drewN | apply Kd.R_drew)); exact HO188.out) hb); have n3_ := Aside0.mk (Kd.R_below (by (with_reducible repeat (first | apply Kd.R_alloc | apply Kd.R_drewN | apply Kd.R_drew)); exact HO191.out) hb); have n4_ := Aside0.mk (Kd.R_below (by (with_reducible repeat (first | apply Kd.R_alloc | apply Kd.R_drewN | apply Kd.R_drew)); exact HO196.out) hb); have n5_ := Aside0.mk (Kd.R_below (by (with_reducible repeat (first | apply Kd.R_alloc | apply Kd.R_drewN | apply Kd.R_drew)); exact HO199.out) hb); have n6_ := Aside0.mk (below_step (by repeat (first | (with_reducible first | exact HB.out | apply below_alloc | apply pw_below_drewN | apply below_drew1) | exact HB.out)) hb); clear HO180; clear HO183; clear HO188; clear HO191; clear HO196; clear HO199; clear HB; have HO180 := n0_; have HO183 := n1_; have HO188 := n2_; have HO191 := n3_; have HO196 := n4_; have HO199 := n5_; have HB := n6_; clear n0_ n1_ n2_ n3_ n4_ n5_ n6_; (try clear hb); (try clear hb2); (try clear hk); (try clear hi)) | ((with_reducible refine gate_callee (f := 63) rfl ?_); refine goesL_ (some 92) rfl rfl Try.func63 (by kernel_rfl) rfl #[.slice none 0 0, .slice none 0 0] rfl (by (try simp only [List.map_toArray, List.map_cons, List.map_nil]); first | done | rfl | (simp only [List.length_drop, List.length_take]; rfl)) ?_; (refine (cost_Real.calls k _ _ ([] : List Int) _ _ ([] : List Bool) t202 t203 _ ?side1 ?side2 ?side3 ?side4 A16.out).mono ?_); (case side1 => exact Kd.C_nil _ _); (case side2 => exact Nat.le_refl _); (case side3 => exact Kd.C_nil _ _); (case side4 => exact Nat.le_refl _); rintro e w62 ⟨rfl, hb⟩; refine ⟨_, rfl, ?_⟩; have n0_ := Aside0.mk (Kd.R_below (by (with_reducible repeat (first | apply Kd.R_alloc | apply Kd.R_drewN | apply Kd.R_drew)); exact HO180.out) hb); have n1_ := Aside0.mk (Kd.R_below (by (with_reducible repeat (first | apply Kd.R_alloc | apply Kd.R_drewN | apply Kd.R_drew)); exact HO183.out) hb); have n2_ := Aside0.mk (Kd.R_below (by (with_reducible repeat (first | apply Kd.R_alloc | apply Kd.R_drewN | apply Kd.R_drew)); exact HO188.out) hb); have n3_ := Aside0.mk (Kd.R_below (by (with_reducible repeat (first | apply Kd.R_alloc | apply Kd.R_drewN | apply Kd.R_drew)); exact HO191.out) hb); have n4_ := Aside0.mk (Kd.R_below (by (with_reducible repeat (first | apply Kd.R_alloc | apply Kd.R_drewN | apply Kd.R_drew)); exact HO196.out) hb); have n5_ := Aside0.mk (Kd.R_below (by (with_reducible repeat (first | apply Kd.R_alloc | apply Kd.R_drewN | apply Kd.R_drew)); exact HO199.out) hb); have n6_ := Aside0.mk (below_step (by repeat (first | (with_reducible first | exact HB.out | apply below_alloc | apply pw_below_drewN | apply below_drew1) | exact HB.out)) hb); clear HO180; clear HO183; clear HO188; clear HO191; clear HO196; clear HO199; clear HB; have HO180 := n0_; have HO183 := n1_; have HO188 := n2_; have HO191 := n3_; have HO196 := n4_; have HO199 := n5_; have HB := n6_; clear n0_ n1_ n2_ n3_ n4_ n5_ n6_; (try clear hb); (try clear hb2); (try clear hk); (try clear hi)) | ((with_reducible refine gate_callee (f := 43) rfl ?_); refine goesL_ (some 96) rfl rfl Try.func43 (by kernel_rfl) rfl #[.int .i64 1, .bool true] rfl (by (try simp only [List.map_toArray, List.map_cons, List.map_nil]); first | done | rfl | (simp only [List.length_drop, List.length_take]; rfl)) ?_; (with_reducible refine (cost_Bit.calls k 1 true t204 t205 _ A17.out).mono ?_); rintro e w' ⟨rfl, ⟨nd, rfl⟩⟩; refine ⟨_, rfl, ?_⟩) | ((with_reducible refine gate_callee (f := 43) rfl ?_); refine goesL_ (some 100) rfl rfl Try.func43 (by kernel_rfl) rfl #[.int .i64 1, .bool false] rfl (by (try simp only [List.map_toArray, List.map_cons, List.map_nil]); first | done | rfl | (simp only [List.length_drop, List.length_take]; rfl)) ?_; (with_reducible refine (cost_Bit.calls k 1 false t206 t207 _ A18.out).mono ?_); rintro e w' ⟨rfl, ⟨nd, rfl⟩⟩; refine ⟨_, rfl, ?_⟩) | (go_at_call 22; (with_reducible refine (bitloftlaw23_alive.calls k  true _ A19.out).mono ?_); rintro e w' ⟨rfl, ⟨nd, rfl⟩⟩) | (go_at_call 68; (with_reducible refine (bitloftref23_Logarithm.calls k 4095 t209 _ A41.out).mono ?_); rintro e w' ⟨rfl, ⟨nd, rfl⟩⟩))
                                                go_ret
                                                exact ⟨by first | rfl | (simp [errW_none, errW_some] <;> rfl) | (simp [*, errW_none, errW_some] <;> rfl), by repeat (first | (with_reducible first | exact HB.out | apply below_alloc | apply pw_below_drewN | apply below_drew1) | exact HB.out)⟩
                                              · rw [if_neg c40] at H
                                                exact absurd H (by simp)
                                            · rw [if_neg c39] at H
                                              exact absurd H (by simp)
                                          · rw [if_neg c38] at H
                                            exact absurd H (by simp)
                                        · rw [if_neg c37] at H
                                          exact absurd H (by simp)
                                      · rw [if_neg c36] at H
                                        exact absurd H (by simp)
                                    · rw [if_neg c35] at H
                                      exact absurd H (by simp)
                                  · rw [if_neg c34] at H
                                    exact absurd H (by simp)
                                · rw [if_neg c33] at H
                                  exact absurd H (by simp)
                              · rw [if_neg c32] at H
                                exact absurd H (by simp)
                            · rw [if_neg c31] at H
                              exact absurd H (by simp)
                          · rw [if_neg c30] at H
                            exact absurd H (by simp)
                        · rw [if_neg c29] at H
                          exact absurd H (by simp)
                      · rw [if_neg c28] at H
                        exact absurd H (by simp)
                    · rw [if_neg c27] at H
                      exact absurd H (by simp)
                  · rw [if_neg c26] at H
                    exact absurd H (by simp)
                · rw [if_neg c25] at H
                  exact absurd H (by simp)
              · rw [if_neg c24] at H
                exact absurd H (by simp)
            · rw [if_neg c23] at H
              exact absurd H (by simp)
          · rw [if_neg c22] at H
            exact absurd H (by simp)
        · rw [if_neg c21] at H
          exact absurd H (by simp)
      · replace c20 := Bool.eq_false_iff.mpr c20
        subst c20
        have H1 : (none) = some r := by rw [if_neg (show ¬ (false = true) by decide)] at H; exact H
        clear H
        have H := H1
        clear H1
        exact absurd H (by simp)
    · rw [if_neg c13] at H
      exact absurd H (by simp)
  · rw [if_neg c11] at H
    exact absurd H (by simp)

/-- THE ONE PURE STATEMENT of bitloftlaw23_CostNames: yours. -/
def bitloftlaw23_CostNames.Pure : Prop := ∃ k, bitloftlaw23_CostNames.f k  = some true
theorem bitloftlaw23_CostNames.walk (P : bitloftlaw23_CostNames.Pure)  (w : World)  :
    Calls Try.prog 21 #[] w fun e w' => e = .returned (.bool true) ∧ Below w.heap.size w w' := by
  obtain ⟨k, h⟩ := P  
  refine (bitloftlaw23_CostNames.calls k  true w h).mono ?_
  rintro e w' ⟨rfl, hd⟩
  exact ⟨rfl, hd⟩

end Go.Proofs.Ytgapkifgddjijaa.QN
