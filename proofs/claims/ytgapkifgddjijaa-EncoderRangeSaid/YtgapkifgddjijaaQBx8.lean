-- Written by qprint.py (a program of this session) out of the translation's print. Not trusted: Lean checks it.
import Derived.Test.YtgapkifgddjijaaQBx0
import Derived.Test.YtgapkifgddjijaaQBx1
import Derived.Test.YtgapkifgddjijaaQBx4
import Derived.Test.YtgapkifgddjijaaQBx5
namespace Go.Proofs.Ytgapkifgddjijaa.QB
open Go.RowKit Go.Proofs.YtgapkifgddjijaaW.PrintWords Go.Proofs.YtgapkifgddjijaaW.PrintLast Go.Proofs.YtgapkifgddjijaaW.PrintMore
attribute [local go_sem] max2_int min2_int max_two min_two max_three min_three max_four min_four   -- for this text's walks alone
set_option linter.unusedVariables false
set_option linter.unusedSimpArgs false

/-! ### bitloftlaw20_EncoderRange: function 10 -/
mutual
def bitloftlaw20_EncoderRange.j0 : Nat → Int → Bool → Bool → Int → Int → List Int → Option (Bool)
  | 0, _, _, _, _, _, _ => none
  | k + 1, x1, x5, x28, x280000, x280001, x280002 => if x28 = true then (some x5) else ((encoder_Put.f k x280000 x280001 x280002 x1 true).bind fun bt283 => ((encoder_Put.f k x280000 x280001 x280002 x1 false).bind fun bt290 => (if bt283.2.2.2 = 0 then (if bt290.2.2.2 = 0 then ((bitloftref20_Check.f bt283.1 bt283.2.1 bt283.2.2.1).bind fun t297 => (if t297 = 0 then ((bitloftref20_Check.f bt290.1 bt290.2.1 bt290.2.2.1).bind fun t298 => (bitloftlaw20_EncoderRange.j1 k x5 (t298 != 0) x280000 x280001 x280002 bt283.1 bt283.2.1 bt283.2.2.1 bt290.1 bt290.2.1 bt290.2.2.1)) else (bitloftlaw20_EncoderRange.j1 k x5 true x280000 x280001 x280002 bt283.1 bt283.2.1 bt283.2.2.1 bt290.1 bt290.2.1 bt290.2.2.1))) else (bitloftlaw20_EncoderRange.j1 k x5 true x280000 x280001 x280002 bt283.1 bt283.2.1 bt283.2.2.1 bt290.1 bt290.2.1 bt290.2.2.1)) else (bitloftlaw20_EncoderRange.j1 k x5 true x280000 x280001 x280002 bt283.1 bt283.2.1 bt283.2.2.1 bt290.1 bt290.2.1 bt290.2.2.1))))
def bitloftlaw20_EncoderRange.j1 : Nat → Bool → Bool → Int → Int → List Int → Int → Int → List Int → Int → Int → List Int → Option (Bool)
  | 0, _, _, _, _, _, _, _, _, _, _, _ => none
  | k + 1, x5, x57, x280000, x280001, x280002, x290000, x290001, x290002, x297000, x297001, x297002 => if x57 = true then (none) else (if (x290002.length : Int) = (x280002.length : Int) then (if x290000 = x280000 then (if (x297002.length : Int) = (x280002.length : Int) then (bitloftlaw20_EncoderRange.j2 k x5 (x297001 != x280001) x280000 x280001 x280002 x290000 x290001 x290002 x297000 x297001 x297002) else (bitloftlaw20_EncoderRange.j2 k x5 false x280000 x280001 x280002 x290000 x290001 x290002 x297000 x297001 x297002)) else (bitloftlaw20_EncoderRange.j2 k x5 true x280000 x280001 x280002 x290000 x290001 x290002 x297000 x297001 x297002)) else (if (x297002.length : Int) = (x280002.length : Int) then (bitloftlaw20_EncoderRange.j2 k x5 (x297001 != x280001) x280000 x280001 x280002 x290000 x290001 x290002 x297000 x297001 x297002) else (bitloftlaw20_EncoderRange.j2 k x5 false x280000 x280001 x280002 x290000 x290001 x290002 x297000 x297001 x297002)))
def bitloftlaw20_EncoderRange.j2 : Nat → Bool → Bool → Int → Int → List Int → Int → Int → List Int → Int → Int → List Int → Option (Bool)
  | 0, _, _, _, _, _, _, _, _, _, _, _ => none
  | k + 1, x5, x87, x280000, x280001, x280002, x290000, x290001, x290002, x297000, x297001, x297002 => if x87 = true then (none) else (if (x290002.length : Int) > (x280002.length : Int) then (some x5) else (if (x297002.length : Int) > (x280002.length : Int) then (some x5) else (if x5 = true then (some ((IntKind.u64.wrap ((IntKind.u64.wrap (x290001)) + 1)) == (IntKind.u64.wrap (x297000)))) else (none))))
end
def bitloftlaw20_EncoderRange.f (k : Nat) (a0_0 : Int) (a0_1 : Int) (l0_2 : List Int) (a1 : Int) : Option (Bool) := (bitloftlaw20_alive.f k).bind fun t280 => (if (l0_2.length : Int) > 100 then (bitloftlaw20_EncoderRange.j0 k a1 t280 true a0_0 a0_1 l0_2) else ((bitloftref20_Check.f a0_0 a0_1 l0_2).bind fun t281 => (if t281 = 0 then ((bitloftref20_Prob.f a1).bind fun t282 => (if t282 = true then (bitloftlaw20_EncoderRange.j0 k a1 t280 (!t280) a0_0 a0_1 l0_2) else (bitloftlaw20_EncoderRange.j0 k a1 t280 true a0_0 a0_1 l0_2))) else (bitloftlaw20_EncoderRange.j0 k a1 t280 true a0_0 a0_1 l0_2))))
theorem bitloftlaw20_EncoderRange.mono_l : ∀ k, (∀ y0 y1 y2 y3 y4 y5, LeO (bitloftlaw20_EncoderRange.j0 k y0 y1 y2 y3 y4 y5) (bitloftlaw20_EncoderRange.j0 (k + 1) y0 y1 y2 y3 y4 y5)) ∧ (∀ y0 y1 y2 y3 y4 y5 y6 y7 y8 y9 y10, LeO (bitloftlaw20_EncoderRange.j1 k y0 y1 y2 y3 y4 y5 y6 y7 y8 y9 y10) (bitloftlaw20_EncoderRange.j1 (k + 1) y0 y1 y2 y3 y4 y5 y6 y7 y8 y9 y10)) ∧ (∀ y0 y1 y2 y3 y4 y5 y6 y7 y8 y9 y10, LeO (bitloftlaw20_EncoderRange.j2 k y0 y1 y2 y3 y4 y5 y6 y7 y8 y9 y10) (bitloftlaw20_EncoderRange.j2 (k + 1) y0 y1 y2 y3 y4 y5 y6 y7 y8 y9 y10))
  | 0 => ⟨fun _ _ _ _ _ _ r h => by simp [bitloftlaw20_EncoderRange.j0] at h, fun _ _ _ _ _ _ _ _ _ _ _ r h => by simp [bitloftlaw20_EncoderRange.j1] at h, fun _ _ _ _ _ _ _ _ _ _ _ r h => by simp [bitloftlaw20_EncoderRange.j2] at h⟩
  | k + 1 => by
    obtain ⟨ih0, ih1, ih2⟩ := bitloftlaw20_EncoderRange.mono_l k
    refine ⟨?_, ?_, ?_⟩
    · intro y0 y1 y2 y3 y4 y5
      unfold bitloftlaw20_EncoderRange.j0
      repeat' first
      | (with_reducible exact ih0 _ _ _ _ _ _)
      | (with_reducible exact ih1 _ _ _ _ _ _ _ _ _ _ _)
      | (with_reducible exact ih2 _ _ _ _ _ _ _ _ _ _ _)
      | (with_reducible exact bitloftlaw20_alive.mono _)
      | (with_reducible exact encoder_Put.mono _ _ _ _ _ _)
      | (with_reducible exact LeO.refl _)
      | (with_reducible exact LeO.none _)
      | (with_reducible refine LeO.ite ?_ ?_)
      | (with_reducible refine LeO.bind ?_ (fun _ => ?_))
      | exact ih0 _ _ _ _ _ _
      | exact ih1 _ _ _ _ _ _ _ _ _ _ _
      | exact ih2 _ _ _ _ _ _ _ _ _ _ _
      | exact bitloftlaw20_alive.mono _
      | exact encoder_Put.mono _ _ _ _ _ _
      | exact LeO.none _
      | refine LeO.ite ?_ ?_
      | refine LeO.bind ?_ (fun _ => ?_)
    · intro y0 y1 y2 y3 y4 y5 y6 y7 y8 y9 y10
      unfold bitloftlaw20_EncoderRange.j1
      repeat' first
      | (with_reducible exact ih0 _ _ _ _ _ _)
      | (with_reducible exact ih1 _ _ _ _ _ _ _ _ _ _ _)
      | (with_reducible exact ih2 _ _ _ _ _ _ _ _ _ _ _)
      | (with_reducible exact bitloftlaw20_alive.mono _)
      | (with_reducible exact encoder_Put.mono _ _ _ _ _ _)
      | (with_reducible exact LeO.refl _)
      | (with_reducible exact LeO.none _)
      | (with_reducible refine LeO.ite ?_ ?_)
      | (with_reducible refine LeO.bind ?_ (fun _ => ?_))
      | exact ih0 _ _ _ _ _ _
      | exact ih1 _ _ _ _ _ _ _ _ _ _ _
      | exact ih2 _ _ _ _ _ _ _ _ _ _ _
      | exact bitloftlaw20_alive.mono _
      | exact encoder_Put.mono _ _ _ _ _ _
      | exact LeO.none _
      | refine LeO.ite ?_ ?_
      | refine LeO.bind ?_ (fun _ => ?_)
    · intro y0 y1 y2 y3 y4 y5 y6 y7 y8 y9 y10
      unfold bitloftlaw20_EncoderRange.j2
      repeat' first
      | (with_reducible exact ih0 _ _ _ _ _ _)
      | (with_reducible exact ih1 _ _ _ _ _ _ _ _ _ _ _)
      | (with_reducible exact ih2 _ _ _ _ _ _ _ _ _ _ _)
      | (with_reducible exact bitloftlaw20_alive.mono _)
      | (with_reducible exact encoder_Put.mono _ _ _ _ _ _)
      | (with_reducible exact LeO.refl _)
      | (with_reducible exact LeO.none _)
      | (with_reducible refine LeO.ite ?_ ?_)
      | (with_reducible refine LeO.bind ?_ (fun _ => ?_))
      | exact ih0 _ _ _ _ _ _
      | exact ih1 _ _ _ _ _ _ _ _ _ _ _
      | exact ih2 _ _ _ _ _ _ _ _ _ _ _
      | exact bitloftlaw20_alive.mono _
      | exact encoder_Put.mono _ _ _ _ _ _
      | exact LeO.none _
      | refine LeO.ite ?_ ?_
      | refine LeO.bind ?_ (fun _ => ?_)
theorem bitloftlaw20_EncoderRange.mono : ∀ a0 a1 a2 a3 k, LeO (bitloftlaw20_EncoderRange.f k a0 a1 a2 a3) (bitloftlaw20_EncoderRange.f (k + 1) a0 a1 a2 a3) := by
  intro a0 a1 a2 a3 k
  obtain ⟨ih0, ih1, ih2⟩ := bitloftlaw20_EncoderRange.mono_l k
  unfold bitloftlaw20_EncoderRange.f
  repeat' first
      | (with_reducible exact ih0 _ _ _ _ _ _)
      | (with_reducible exact ih1 _ _ _ _ _ _ _ _ _ _ _)
      | (with_reducible exact ih2 _ _ _ _ _ _ _ _ _ _ _)
      | (with_reducible exact bitloftlaw20_alive.mono _)
      | (with_reducible exact encoder_Put.mono _ _ _ _ _ _)
      | (with_reducible exact LeO.refl _)
      | (with_reducible exact LeO.none _)
      | (with_reducible refine LeO.ite ?_ ?_)
      | (with_reducible refine LeO.bind ?_ (fun _ => ?_))
      | exact ih0 _ _ _ _ _ _
      | exact ih1 _ _ _ _ _ _ _ _ _ _ _
      | exact ih2 _ _ _ _ _ _ _ _ _ _ _
      | exact bitloftlaw20_alive.mono _
      | exact encoder_Put.mono _ _ _ _ _ _
      | exact LeO.none _
      | refine LeO.ite ?_ ?_
      | refine LeO.bind ?_ (fun _ => ?_)
set_option maxHeartbeats 8000000 in
set_option maxRecDepth 100000 in
theorem bitloftlaw20_EncoderRange.calls (k : Nat) (a0_0 : Int) (a0_1 : Int) (A0_2 : Option Addr) (c0_2 : Nat) (l0_2 : List Int) (a1 : Int) (r : Bool) (w : World) (hr0_2 : Kd.C (Kd.int .u8) w A0_2 l0_2.length l0_2) (hc0_2 : l0_2.length ≤ c0_2) (h : bitloftlaw20_EncoderRange.f k a0_0 a0_1 l0_2 a1 = some r) :
    Calls Try.prog 10 #[.agg #[.int .u32 a0_0, .int .u32 a0_1, .slice A0_2 l0_2.length c0_2], .int .i64 a1] w fun e w' => e = .returned (.bool r) ∧ Below w.heap.size w w' := by
  have hu42 := Try.underlying42
  have HR0_2 := Aside0.mk hr0_2
  have HC0_2 := Aside0.mk hc0_2
  clear hr0_2 hc0_2
  have HB := Aside0.mk (Below.refl w.heap.size w)
  have H : ((bitloftlaw20_alive.f k).bind fun t280 => (if (l0_2.length : Int) > 100 then (bitloftlaw20_EncoderRange.j0 k a1 t280 true a0_0 a0_1 l0_2) else ((bitloftref20_Check.f a0_0 a0_1 l0_2).bind fun t281 => (if t281 = 0 then ((bitloftref20_Prob.f a1).bind fun t282 => (if t282 = true then (bitloftlaw20_EncoderRange.j0 k a1 t280 (!t280) a0_0 a0_1 l0_2) else (bitloftlaw20_EncoderRange.j0 k a1 t280 true a0_0 a0_1 l0_2))) else (bitloftlaw20_EncoderRange.j0 k a1 t280 true a0_0 a0_1 l0_2))))) = some r := h
  clear h
  replace H := Option.bind_eq_some_iff.mp H
  obtain ⟨t280, A30, H⟩ := H
  replace H : (if (l0_2.length : Int) > 100 then (bitloftlaw20_EncoderRange.j0 k a1 t280 true a0_0 a0_1 l0_2) else ((bitloftref20_Check.f a0_0 a0_1 l0_2).bind fun t281 => (if t281 = 0 then ((bitloftref20_Prob.f a1).bind fun t282 => (if t282 = true then (bitloftlaw20_EncoderRange.j0 k a1 t280 (!t280) a0_0 a0_1 l0_2) else (bitloftlaw20_EncoderRange.j0 k a1 t280 true a0_0 a0_1 l0_2))) else (bitloftlaw20_EncoderRange.j0 k a1 t280 true a0_0 a0_1 l0_2)))) = some r := H
  have A3 := Aside0.mk A30
  clear A30
  have HC4 := Aside0.mk H
  clear H
  go_enter Try.func10, Try.ntmps10
  go_upto_region 2 with (first | ((with_reducible refine gate_dst (N := 2) rfl ?_); (try (refine gate_guard (by rfl) ?_; dsimp only)); refine box_event ?hg (N := 2) ?hd (cs := #[.int .u32 a0_0, .int .u32 a0_1, .slice A0_2 l0_2.length c0_2]) (t := 42) ?hr ?_; (case hd => rfl); (case hg => rfl); (case hr => first | (go_simp; done) | (go_simp; rfl)); intro gb279 hg w5 hbox hb; have n0_ := Aside0.mk (below_step (by repeat (first | (with_reducible first | exact HB.out | apply below_alloc | apply pw_below_drewN | apply below_drew1) | exact HB.out)) hb); have n1_ := Aside0.mk (hbox); have n2_ := Aside0.mk ((by rw [hg]; exact (below_size (by repeat (first | (with_reducible first | exact HB.out | apply below_alloc | apply pw_below_drewN | apply below_drew1) | exact HB.out))) : w.heap.size ≤ gb279)); have n3_ := Aside0.mk ((by rw [hg]; exact (below_size (by repeat (first | (with_reducible first | exact HB.out | apply below_alloc | apply pw_below_drewN | apply below_drew1) | exact HB.out))) : w.heap.size ≤ gb279)); clear HB; have HB := n0_; have BK279 := n1_; have GW279 := n2_; have GE279 := n3_; clear n0_ n1_ n2_ n3_; clear hb hbox hg) | ((with_reducible refine gate_callee (f := 26) rfl ?_); refine goesL_ (some 10) rfl rfl Try.func26 (by kernel_rfl) rfl #[] rfl (by (try simp only [List.map_toArray, List.map_cons, List.map_nil]); first | done | rfl | (simp only [List.length_drop, List.length_take]; rfl)) ?_; (with_reducible refine (bitloftlaw20_alive.calls k  t280 _ A3.out).mono ?_); rintro e w6 ⟨rfl, hb⟩; refine ⟨_, rfl, ?_⟩; have n0_ := Aside0.mk (blk_below (g := gb279) (o := .cells #[.int .u32 a0_0, .int .u32 a0_1, .slice A0_2 l0_2.length c0_2] 42 (0, 0)) (by (with_reducible repeat (first | refine blk_drewN ?_ _ | refine blk_drew ?_ | refine blk_alloc ?_ _)); exact BK279.out) hb); have n1_ := Aside0.mk (below_step (by repeat (first | (with_reducible first | exact HB.out | apply below_alloc | apply pw_below_drewN | apply below_drew1 | refine below_set ?_ GE279.out) | exact HB.out)) hb); clear BK279; clear HB; have BK279 := n0_; have HB := n1_; clear n0_ n1_; (try clear hb); (try clear hb2); (try clear hk); (try clear hi)))
  (try simp only [Act.put, List.setIfInBounds_toArray, List.set_cons_zero, List.set_cons_succ])
  go_cut [28] (fun v28 wc => ∃ (kq : Nat) (x28_3 : Bool), v28 = .bool x28_3 ∧ Aside0 (bitloftlaw20_EncoderRange.j0 kq a1 t280 x28_3 a0_0 a0_1 l0_2 = some r) ∧ Aside0 (kq ≤ k) ∧ Aside0 (wc.heap[gb279]? = some (.cells #[.int .u32 a0_0, .int .u32 a0_1, (.slice A0_2 l0_2.length c0_2)] 42 (0, 0))) ∧ Aside0 (Below w.heap.size w wc))
  case first =>
    have H := HC4.out
    clear HC4
    by_cases c7 : (l0_2.length : Int) > 100
    · rw [if_pos c7] at H
      have c7b0 : decide (100 < (l0_2.length : Int)) = true := decide_eq_true c7
      have c7b1 : decide (100 < l0_2.length) = true := decide_eq_true (by omega)
      clear c7
      (first | rw [c7b0] | (simp only [i64_w, i32_w]; rw [c7b0]) | skip)
      have H' := Aside0.mk H
      clear H
      have hcz8_0 : w6.cell? ⟨gb279, 0, none⟩ = some (.int .u32 a0_0) := (blk_cell BK279.out 0).trans rfl
      have hcz8_1 : w6.cell? ⟨gb279, 1, none⟩ = some (.int .u32 a0_1) := (blk_cell BK279.out 1).trans rfl
      have hcz8_2 : w6.cell? ⟨gb279, 2, none⟩ = some (.slice A0_2 l0_2.length c0_2) := (blk_cell BK279.out 2).trans rfl
      have hfz8_0 := blk_frozen BK279.out 0
      have hfz8_1 := blk_frozen BK279.out 1
      have hfz8_2 := blk_frozen BK279.out 2
      go_wp2
      go_meet
      case rel => exact ⟨_, (true), (by first | rfl | (simp; done) | (simp [*]; done)), H', ⟨by first | omega | exact Nat.le_refl _⟩, ⟨by (with_reducible repeat (first | refine blk_drewN ?_ _ | refine blk_drew ?_ | refine blk_alloc ?_ _)); exact BK279.out⟩, ⟨by repeat (first | (with_reducible first | exact HB.out | apply below_alloc | apply pw_below_drewN | apply below_drew1 | refine below_set ?_ GE279.out) | exact HB.out)⟩⟩
    · rw [if_neg c7] at H
      have c7b0 : decide (100 < (l0_2.length : Int)) = false := decide_eq_false c7
      have c7b1 : decide (100 < l0_2.length) = false := decide_eq_false (by omega)
      clear c7
      (first | rw [c7b0] | (simp only [i64_w, i32_w]; rw [c7b0]) | skip)
      replace H := Option.bind_eq_some_iff.mp H
      obtain ⟨t281, A90, H⟩ := H
      replace H : (if t281 = 0 then ((bitloftref20_Prob.f a1).bind fun t282 => (if t282 = true then (bitloftlaw20_EncoderRange.j0 k a1 t280 (!t280) a0_0 a0_1 l0_2) else (bitloftlaw20_EncoderRange.j0 k a1 t280 true a0_0 a0_1 l0_2))) else (bitloftlaw20_EncoderRange.j0 k a1 t280 true a0_0 a0_1 l0_2)) = some r := H
      have A9 := Aside0.mk A90
      clear A90
      by_cases c10 : t281 = 0
      · rw [if_pos c10] at H
        have c10b0 : (t281 == 0) = true := beq_iff_eq.mpr c10
        have c10b1 : (t281 != 0) = false := bne_eq_false_iff_eq.mpr c10
        clear c10
        replace H := Option.bind_eq_some_iff.mp H
        obtain ⟨t282, A110, H⟩ := H
        replace H : (if t282 = true then (bitloftlaw20_EncoderRange.j0 k a1 t280 (!t280) a0_0 a0_1 l0_2) else (bitloftlaw20_EncoderRange.j0 k a1 t280 true a0_0 a0_1 l0_2)) = some r := H
        have A11 := Aside0.mk A110
        clear A110
        by_cases c12 : t282 = true
        · subst c12
          have H1 : (bitloftlaw20_EncoderRange.j0 k a1 t280 (!t280) a0_0 a0_1 l0_2) = some r := by rw [if_pos rfl] at H; exact H
          clear H
          have H := H1
          clear H1
          have H' := Aside0.mk H
          clear H
          have hcz13_0 : w6.cell? ⟨gb279, 0, none⟩ = some (.int .u32 a0_0) := (blk_cell BK279.out 0).trans rfl
          have hcz13_1 : w6.cell? ⟨gb279, 1, none⟩ = some (.int .u32 a0_1) := (blk_cell BK279.out 1).trans rfl
          have hcz13_2 : w6.cell? ⟨gb279, 2, none⟩ = some (.slice A0_2 l0_2.length c0_2) := (blk_cell BK279.out 2).trans rfl
          have hfz13_0 := blk_frozen BK279.out 0
          have hfz13_1 := blk_frozen BK279.out 1
          have hfz13_2 := blk_frozen BK279.out 2
          go_wp2_with (first | (go_at_call 38; (with_reducible refine (bitloftref20_Check.calls a0_0 a0_1 _ _ l0_2 t281 _ ?side1 ?side2 A9.out).mono ?_); (case side1 => repeat (first | exact (Kd.C_below HR0_2.out HB.out) | (with_reducible refine Kd.C_alloc ?_ _) | (with_reducible refine Kd.C_drewN ?_ _) | (with_reducible refine Kd.C_drew ?_))); (case side2 => exact HC0_2.out); rintro e w14 ⟨rfl, hb⟩; have n0_ := Aside0.mk (blk_below (g := gb279) (o := .cells #[.int .u32 a0_0, .int .u32 a0_1, .slice A0_2 l0_2.length c0_2] 42 (0, 0)) (by (with_reducible repeat (first | refine blk_drewN ?_ _ | refine blk_drew ?_ | refine blk_alloc ?_ _)); exact BK279.out) hb); have n1_ := Aside0.mk (below_step (by repeat (first | (with_reducible first | exact HB.out | apply below_alloc | apply pw_below_drewN | apply below_drew1 | refine below_set ?_ GE279.out) | exact HB.out)) hb); clear BK279; clear HB; have BK279 := n0_; have HB := n1_; clear n0_ n1_; (try clear hb); (try clear hb2); (try clear hk); (try clear hi)) | (go_at_call 27; (with_reducible refine (bitloftref20_Prob.calls a1 true _ A11.out).mono ?_); rintro e w' ⟨rfl, ⟨nd, rfl⟩⟩))
          go_meet
          case rel => exact ⟨_, (!t280), (by first | rfl | (simp; done) | (simp [*]; done)), H', ⟨by first | omega | exact Nat.le_refl _⟩, ⟨by (with_reducible repeat (first | refine blk_drewN ?_ _ | refine blk_drew ?_ | refine blk_alloc ?_ _)); exact BK279.out⟩, ⟨by repeat (first | (with_reducible first | exact HB.out | apply below_alloc | apply pw_below_drewN | apply below_drew1 | refine below_set ?_ GE279.out) | exact HB.out)⟩⟩
        · replace c12 := Bool.eq_false_iff.mpr c12
          subst c12
          have H1 : (bitloftlaw20_EncoderRange.j0 k a1 t280 true a0_0 a0_1 l0_2) = some r := by rw [if_neg (show ¬ (false = true) by decide)] at H; exact H
          clear H
          have H := H1
          clear H1
          have H' := Aside0.mk H
          clear H
          have hcz15_0 : w6.cell? ⟨gb279, 0, none⟩ = some (.int .u32 a0_0) := (blk_cell BK279.out 0).trans rfl
          have hcz15_1 : w6.cell? ⟨gb279, 1, none⟩ = some (.int .u32 a0_1) := (blk_cell BK279.out 1).trans rfl
          have hcz15_2 : w6.cell? ⟨gb279, 2, none⟩ = some (.slice A0_2 l0_2.length c0_2) := (blk_cell BK279.out 2).trans rfl
          have hfz15_0 := blk_frozen BK279.out 0
          have hfz15_1 := blk_frozen BK279.out 1
          have hfz15_2 := blk_frozen BK279.out 2
          go_wp2_with (first | (go_at_call 38; (with_reducible refine (bitloftref20_Check.calls a0_0 a0_1 _ _ l0_2 t281 _ ?side1 ?side2 A9.out).mono ?_); (case side1 => repeat (first | exact (Kd.C_below HR0_2.out HB.out) | (with_reducible refine Kd.C_alloc ?_ _) | (with_reducible refine Kd.C_drewN ?_ _) | (with_reducible refine Kd.C_drew ?_))); (case side2 => exact HC0_2.out); rintro e w16 ⟨rfl, hb⟩; have n0_ := Aside0.mk (blk_below (g := gb279) (o := .cells #[.int .u32 a0_0, .int .u32 a0_1, .slice A0_2 l0_2.length c0_2] 42 (0, 0)) (by (with_reducible repeat (first | refine blk_drewN ?_ _ | refine blk_drew ?_ | refine blk_alloc ?_ _)); exact BK279.out) hb); have n1_ := Aside0.mk (below_step (by repeat (first | (with_reducible first | exact HB.out | apply below_alloc | apply pw_below_drewN | apply below_drew1 | refine below_set ?_ GE279.out) | exact HB.out)) hb); clear BK279; clear HB; have BK279 := n0_; have HB := n1_; clear n0_ n1_; (try clear hb); (try clear hb2); (try clear hk); (try clear hi)) | (go_at_call 27; (with_reducible refine (bitloftref20_Prob.calls a1 false _ A11.out).mono ?_); rintro e w' ⟨rfl, ⟨nd, rfl⟩⟩))
          go_meet
          case rel => exact ⟨_, (true), (by first | rfl | (simp; done) | (simp [*]; done)), H', ⟨by first | omega | exact Nat.le_refl _⟩, ⟨by (with_reducible repeat (first | refine blk_drewN ?_ _ | refine blk_drew ?_ | refine blk_alloc ?_ _)); exact BK279.out⟩, ⟨by repeat (first | (with_reducible first | exact HB.out | apply below_alloc | apply pw_below_drewN | apply below_drew1 | refine below_set ?_ GE279.out) | exact HB.out)⟩⟩
      · rw [if_neg c10] at H
        have c10b0 : (t281 == 0) = false := beq_eq_false_iff_ne.mpr c10
        have c10b1 : (t281 != 0) = true := bne_iff_ne.mpr c10
        have H' := Aside0.mk H
        clear H
        have hcz17_0 : w6.cell? ⟨gb279, 0, none⟩ = some (.int .u32 a0_0) := (blk_cell BK279.out 0).trans rfl
        have hcz17_1 : w6.cell? ⟨gb279, 1, none⟩ = some (.int .u32 a0_1) := (blk_cell BK279.out 1).trans rfl
        have hcz17_2 : w6.cell? ⟨gb279, 2, none⟩ = some (.slice A0_2 l0_2.length c0_2) := (blk_cell BK279.out 2).trans rfl
        have hfz17_0 := blk_frozen BK279.out 0
        have hfz17_1 := blk_frozen BK279.out 1
        have hfz17_2 := blk_frozen BK279.out 2
        go_wp2_with (first | (go_at_call 38; (with_reducible refine (bitloftref20_Check.calls a0_0 a0_1 _ _ l0_2 t281 _ ?side1 ?side2 A9.out).mono ?_); (case side1 => repeat (first | exact (Kd.C_below HR0_2.out HB.out) | (with_reducible refine Kd.C_alloc ?_ _) | (with_reducible refine Kd.C_drewN ?_ _) | (with_reducible refine Kd.C_drew ?_))); (case side2 => exact HC0_2.out); rintro e w18 ⟨rfl, hb⟩; have n0_ := Aside0.mk (blk_below (g := gb279) (o := .cells #[.int .u32 a0_0, .int .u32 a0_1, .slice A0_2 l0_2.length c0_2] 42 (0, 0)) (by (with_reducible repeat (first | refine blk_drewN ?_ _ | refine blk_drew ?_ | refine blk_alloc ?_ _)); exact BK279.out) hb); have n1_ := Aside0.mk (below_step (by repeat (first | (with_reducible first | exact HB.out | apply below_alloc | apply pw_below_drewN | apply below_drew1 | refine below_set ?_ GE279.out) | exact HB.out)) hb); clear BK279; clear HB; have BK279 := n0_; have HB := n1_; clear n0_ n1_; (try clear hb); (try clear hb2); (try clear hk); (try clear hi)))
        go_meet
        case rel => exact ⟨_, (true), (by first | rfl | (simp; done) | (simp [*]; done)), H', ⟨by first | omega | exact Nat.le_refl _⟩, ⟨by (with_reducible repeat (first | refine blk_drewN ?_ _ | refine blk_drew ?_ | refine blk_alloc ?_ _)); exact BK279.out⟩, ⟨by repeat (first | (with_reducible first | exact HB.out | apply below_alloc | apply pw_below_drewN | apply below_drew1 | refine below_set ?_ GE279.out) | exact HB.out)⟩⟩
  case rest =>
    clear HC4
    try clear c1
    try clear c2
    try clear p2
    try clear c7
    try clear c7b0
    try clear c7b1
    try clear c10
    try clear c10b0
    try clear c10b1
    try clear c12
    try clear hcz13_0
    try clear hcz13_1
    try clear hcz13_2
    try clear hcz15_0
    try clear hcz15_1
    try clear hcz15_2
    try clear hcz17_0
    try clear hcz17_1
    try clear hcz17_2
    try clear hcz8_0
    try clear hcz8_1
    try clear hcz8_2
    try clear hfz13_0
    try clear hfz13_1
    try clear hfz13_2
    try clear hfz15_0
    try clear hfz15_1
    try clear hfz15_2
    try clear hfz17_0
    try clear hfz17_1
    try clear hfz17_2
    try clear hfz8_0
    try clear hfz8_1
    try clear hfz8_2
    obtain ⟨kq, x28_3, rfl, HA, HJ3, BK279, HB⟩ := hcut
    cases kq with
    | zero => exact absurd HA.out (by simp [bitloftlaw20_EncoderRange.j0])
    | succ kj3 =>
      have H := HA.out
      clear HA
      simp only [bitloftlaw20_EncoderRange.j0] at H
      by_cases c19 : x28_3 = true
      · subst c19
        have H1 : (some t280) = some r := by rw [if_pos rfl] at H; exact H
        clear H
        have H := H1
        clear H1
        obtain rfl := Option.some.inj H
        go_wp2
        go_ret
        exact ⟨by first | rfl | (simp [errW_none, errW_some] <;> rfl) | (simp [*, errW_none, errW_some] <;> rfl), by repeat (first | (with_reducible first | exact HB.out | apply below_alloc | apply pw_below_drewN | apply below_drew1 | refine below_set ?_ GE279.out) | exact HB.out)⟩
      · replace c19 := Bool.eq_false_iff.mpr c19
        subst c19
        have H1 : ((encoder_Put.f kj3 a0_0 a0_1 l0_2 a1 true).bind fun bt283 => ((encoder_Put.f kj3 a0_0 a0_1 l0_2 a1 false).bind fun bt290 => (if bt283.2.2.2 = 0 then (if bt290.2.2.2 = 0 then ((bitloftref20_Check.f bt283.1 bt283.2.1 bt283.2.2.1).bind fun t297 => (if t297 = 0 then ((bitloftref20_Check.f bt290.1 bt290.2.1 bt290.2.2.1).bind fun t298 => (bitloftlaw20_EncoderRange.j1 kj3 t280 (t298 != 0) a0_0 a0_1 l0_2 bt283.1 bt283.2.1 bt283.2.2.1 bt290.1 bt290.2.1 bt290.2.2.1)) else (bitloftlaw20_EncoderRange.j1 kj3 t280 true a0_0 a0_1 l0_2 bt283.1 bt283.2.1 bt283.2.2.1 bt290.1 bt290.2.1 bt290.2.2.1))) else (bitloftlaw20_EncoderRange.j1 kj3 t280 true a0_0 a0_1 l0_2 bt283.1 bt283.2.1 bt283.2.2.1 bt290.1 bt290.2.1 bt290.2.2.1)) else (bitloftlaw20_EncoderRange.j1 kj3 t280 true a0_0 a0_1 l0_2 bt283.1 bt283.2.1 bt283.2.2.1 bt290.1 bt290.2.1 bt290.2.2.1)))) = some r := by rw [if_neg (show ¬ (false = true) by decide)] at H; exact H
        clear H
        have H := H1
        clear H1
        replace H := Option.bind_eq_some_iff.mp H
        obtain ⟨⟨t283, t284, t285, t288⟩, A200, H⟩ := H
        replace H : ((encoder_Put.f kj3 a0_0 a0_1 l0_2 a1 false).bind fun bt290 => (if t288 = 0 then (if bt290.2.2.2 = 0 then ((bitloftref20_Check.f t283 t284 t285).bind fun t297 => (if t297 = 0 then ((bitloftref20_Check.f bt290.1 bt290.2.1 bt290.2.2.1).bind fun t298 => (bitloftlaw20_EncoderRange.j1 kj3 t280 (t298 != 0) a0_0 a0_1 l0_2 t283 t284 t285 bt290.1 bt290.2.1 bt290.2.2.1)) else (bitloftlaw20_EncoderRange.j1 kj3 t280 true a0_0 a0_1 l0_2 t283 t284 t285 bt290.1 bt290.2.1 bt290.2.2.1))) else (bitloftlaw20_EncoderRange.j1 kj3 t280 true a0_0 a0_1 l0_2 t283 t284 t285 bt290.1 bt290.2.1 bt290.2.2.1)) else (bitloftlaw20_EncoderRange.j1 kj3 t280 true a0_0 a0_1 l0_2 t283 t284 t285 bt290.1 bt290.2.1 bt290.2.2.1))) = some r := H
        have A20 := Aside0.mk A200
        clear A200
        replace H := Option.bind_eq_some_iff.mp H
        obtain ⟨⟨t290, t291, t292, t295⟩, A210, H⟩ := H
        replace H : (if t288 = 0 then (if t295 = 0 then ((bitloftref20_Check.f t283 t284 t285).bind fun t297 => (if t297 = 0 then ((bitloftref20_Check.f t290 t291 t292).bind fun t298 => (bitloftlaw20_EncoderRange.j1 kj3 t280 (t298 != 0) a0_0 a0_1 l0_2 t283 t284 t285 t290 t291 t292)) else (bitloftlaw20_EncoderRange.j1 kj3 t280 true a0_0 a0_1 l0_2 t283 t284 t285 t290 t291 t292))) else (bitloftlaw20_EncoderRange.j1 kj3 t280 true a0_0 a0_1 l0_2 t283 t284 t285 t290 t291 t292)) else (bitloftlaw20_EncoderRange.j1 kj3 t280 true a0_0 a0_1 l0_2 t283 t284 t285 t290 t291 t292)) = some r := H
        have A21 := Aside0.mk A210
        clear A210
        have HC22 := Aside0.mk H
        clear H
        have hcz23_0 : wc.cell? ⟨gb279, 0, none⟩ = some (.int .u32 a0_0) := (blk_cell BK279.out 0).trans rfl
        have hcz23_1 : wc.cell? ⟨gb279, 1, none⟩ = some (.int .u32 a0_1) := (blk_cell BK279.out 1).trans rfl
        have hcz23_2 : wc.cell? ⟨gb279, 2, none⟩ = some (.slice A0_2 l0_2.length c0_2) := (blk_cell BK279.out 2).trans rfl
        have hfz23_0 := blk_frozen BK279.out 0
        have hfz23_1 := blk_frozen BK279.out 1
        have hfz23_2 := blk_frozen BK279.out 2
        go_upto_region 6 with (first | ((with_reducible refine gate_callee (f := 30) rfl ?_); refine goesL_ (some 33) rfl rfl Try.func30 (by kernel_rfl) rfl #[.agg #[.int .u32 a0_0, .int .u32 a0_1, .slice A0_2 l0_2.length c0_2], .int .i64 a1, .bool true] rfl (by (try simp only [List.map_toArray, List.map_cons, List.map_nil]); first | done | rfl | (simp only [List.length_drop, List.length_take]; rfl)) ?_; (with_reducible refine (encoder_Put.calls kj3 a0_0 a0_1 _ _ l0_2 a1 true t283 t284 t285 t288 _ ?side1 ?side2 A20.out).mono ?_); (case side1 => repeat (first | exact (Kd.C_below HR0_2.out HB.out) | (with_reducible refine Kd.C_alloc ?_ _) | (with_reducible refine Kd.C_drewN ?_ _) | (with_reducible refine Kd.C_drew ?_))); (case side2 => exact HC0_2.out); rintro e w24 ⟨v286, rfl, ho0, hb⟩; refine ⟨_, rfl, ?_⟩; have n0_ := Aside0.mk (Kd.R_lower ho0 (below_size (by repeat (first | (with_reducible first | exact HB.out | apply below_alloc | apply pw_below_drewN | apply below_drew1 | refine below_set ?_ GE279.out) | exact HB.out)))); have n1_ := Aside0.mk (blk_below (g := gb279) (o := .cells #[.int .u32 a0_0, .int .u32 a0_1, .slice A0_2 l0_2.length c0_2] 42 (0, 0)) (by (with_reducible repeat (first | refine blk_drewN ?_ _ | refine blk_drew ?_ | refine blk_alloc ?_ _)); exact BK279.out) hb); have n2_ := Aside0.mk (below_step (by repeat (first | (with_reducible first | exact HB.out | apply below_alloc | apply pw_below_drewN | apply below_drew1 | refine below_set ?_ GE279.out) | exact HB.out)) hb); clear BK279; clear HB; have HO287 := n0_; have BK279 := n1_; have HB := n2_; clear n0_ n1_ n2_; (try clear hb); (try clear hb2); (try clear hk); (try clear hi); (try clear ho0)) | ((with_reducible refine gate_dst (N := 6) rfl ?_); (try (refine gate_guard (by rfl) ?_; dsimp only)); refine box_event ?hg (N := 6) ?hd (cs := #[.int .u32 0, .int .u32 0, .slice none 0 0]) (t := 42) ?hr ?_; (case hd => rfl); (case hg => rfl); (case hr => first | (go_simp; done) | (go_simp; rfl)); intro gb289 hg w25 hbox hb; have n0_ := Aside0.mk (Kd.R_below (by (with_reducible repeat (first | apply Kd.R_alloc | apply Kd.R_drewN | apply Kd.R_drew)); exact HO287.out) hb); have n1_ := Aside0.mk (blk_below (g := gb279) (o := .cells #[.int .u32 a0_0, .int .u32 a0_1, .slice A0_2 l0_2.length c0_2] 42 (0, 0)) (by (with_reducible repeat (first | refine blk_drewN ?_ _ | refine blk_drew ?_ | refine blk_alloc ?_ _)); exact BK279.out) hb); have n2_ := Aside0.mk (below_step (by repeat (first | (with_reducible first | exact HB.out | apply below_alloc | apply pw_below_drewN | apply below_drew1 | refine below_set ?_ GE279.out) | exact HB.out)) hb); have n3_ := Aside0.mk (hbox); have n4_ := Aside0.mk ((by rw [hg]; exact (below_size (by repeat (first | (with_reducible first | exact HB.out | apply below_alloc | apply pw_below_drewN | apply below_drew1 | refine below_set ?_ GE279.out) | exact HB.out))) : w.heap.size ≤ gb289)); have n5_ := Aside0.mk ((by rw [hg]; exact (below_size (by repeat (first | (with_reducible first | exact HB.out | apply below_alloc | apply pw_below_drewN | apply below_drew1 | refine below_set ?_ GE279.out) | exact HB.out))) : w.heap.size ≤ gb289)); have n6_ := Aside0.mk ((by rw [hg]; exact Nat.ne_of_lt (blk_lt (g := gb279) (o := .cells #[.int .u32 a0_0, .int .u32 a0_1, .slice A0_2 l0_2.length c0_2] 42 (0, 0)) (by (with_reducible repeat (first | refine blk_drewN ?_ _ | refine blk_drew ?_ | refine blk_alloc ?_ _)); exact BK279.out)) : gb279 ≠ gb289)); have n7_ := Aside0.mk ((by rw [hg]; exact Nat.ne_of_gt (blk_lt (g := gb279) (o := .cells #[.int .u32 a0_0, .int .u32 a0_1, .slice A0_2 l0_2.length c0_2] 42 (0, 0)) (by (with_reducible repeat (first | refine blk_drewN ?_ _ | refine blk_drew ?_ | refine blk_alloc ?_ _)); exact BK279.out)) : gb289 ≠ gb279)); clear HO287; clear BK279; clear HB; have HO287 := n0_; have BK279 := n1_; have HB := n2_; have BK289 := n3_; have GW289 := n4_; have GE289 := n5_; have NB279_289 := n6_; have NB289_279 := n7_; clear n0_ n1_ n2_ n3_ n4_ n5_ n6_ n7_; clear hb hbox hg; have hnb26 := NB289_279.out; have hnc26 := NB279_289.out; have hcz27_0 : w25.cell? ⟨gb289, 0, none⟩ = some (.int .u32 0) := (blk_cell BK289.out 0).trans rfl; have hcz27_1 : w25.cell? ⟨gb289, 1, none⟩ = some (.int .u32 0) := (blk_cell BK289.out 1).trans rfl; have hcz27_2 : w25.cell? ⟨gb289, 2, none⟩ = some (.slice none 0 0) := (blk_cell BK289.out 2).trans rfl; have hfz27_0 := blk_frozen BK289.out 0; have hfz27_1 := blk_frozen BK289.out 1; have hfz27_2 := blk_frozen BK289.out 2; obtain ⟨Ao28, co28, eo28⟩ := Kd.R_slice HO287.out; subst eo28; have hcz29_0 : w25.cell? ⟨gb279, 0, none⟩ = some (.int .u32 a0_0) := (blk_cell BK279.out 0).trans rfl; have hcz29_1 : w25.cell? ⟨gb279, 1, none⟩ = some (.int .u32 a0_1) := (blk_cell BK279.out 1).trans rfl; have hcz29_2 : w25.cell? ⟨gb279, 2, none⟩ = some (.slice A0_2 l0_2.length c0_2) := (blk_cell BK279.out 2).trans rfl; have hfz29_0 := blk_frozen BK279.out 0; have hfz29_1 := blk_frozen BK279.out 1; have hfz29_2 := blk_frozen BK279.out 2) | ((with_reducible refine gate_callee (f := 30) rfl ?_); refine goesL_ (some 39) rfl rfl Try.func30 (by kernel_rfl) rfl #[.agg #[.int .u32 a0_0, .int .u32 a0_1, .slice A0_2 l0_2.length c0_2], .int .i64 a1, .bool false] rfl (by (try simp only [List.map_toArray, List.map_cons, List.map_nil]); first | done | rfl | (simp only [List.length_drop, List.length_take]; rfl)) ?_; (with_reducible refine (encoder_Put.calls kj3 a0_0 a0_1 _ _ l0_2 a1 false t290 t291 t292 t295 _ ?side1 ?side2 A21.out).mono ?_); (case side1 => exact Kd.C_below HR0_2.out (by repeat (first | (with_reducible first | exact HB.out | apply below_alloc | apply pw_below_drewN | apply below_drew1 | refine below_set ?_ GE279.out | refine below_set ?_ GE289.out) | exact HB.out))); (case side2 => exact HC0_2.out); rintro e w30 ⟨v293, rfl, ho0, hb⟩; refine ⟨_, rfl, ?_⟩; have n0_ := Aside0.mk (Kd.R_elder' (by (with_reducible repeat (first | apply Kd.R_alloc | apply Kd.R_drewN | apply Kd.R_drew)); exact (Kd.R_mono (Kd.R_far (p := ⟨gb289, 2, none⟩) (Kd.R_far (p := ⟨gb289, 1, none⟩) (Kd.R_far (p := ⟨gb289, 0, none⟩) (Kd.R_types HO287.out BK289.out (by decide)) (fun _ hk => hk.2) (.int .u32 t283)) (fun _ hk => hk.2) (.int .u32 t284)) (fun _ hk => hk.2) (.slice Ao28 t285.length co28)) (fun _ h_ => h_.1))) (Kd.R_base ho0) hb); have n1_ := Aside0.mk (Kd.R_lower (Kd.R_new' ho0 (Kd.R_lt (by (with_reducible repeat (first | apply Kd.R_alloc | apply Kd.R_drewN | apply Kd.R_drew)); exact (Kd.R_mono (Kd.R_far (p := ⟨gb289, 2, none⟩) (Kd.R_far (p := ⟨gb289, 1, none⟩) (Kd.R_far (p := ⟨gb289, 0, none⟩) (Kd.R_types HO287.out BK289.out (by decide)) (fun _ hk => hk.2) (.int .u32 t283)) (fun _ hk => hk.2) (.int .u32 t284)) (fun _ hk => hk.2) (.slice Ao28 t285.length co28)) (fun _ h_ => h_.1))))) (below_size (by repeat (first | (with_reducible first | exact HB.out | apply below_alloc | apply pw_below_drewN | apply below_drew1 | refine below_set ?_ GE279.out | refine below_set ?_ GE289.out) | exact HB.out)))); have n2_ := Aside0.mk (blk_below (g := gb279) (o := .cells #[.int .u32 a0_0, .int .u32 a0_1, .slice A0_2 l0_2.length c0_2] 42 (0, 0)) (by (with_reducible repeat (first | refine blk_drewN ?_ _ | refine blk_drew ?_ | refine blk_alloc ?_ _)); refine blk_far ?_ NB279_289.out _; (with_reducible repeat (first | refine blk_drewN ?_ _ | refine blk_drew ?_ | refine blk_alloc ?_ _)); refine blk_far ?_ NB279_289.out _; (with_reducible repeat (first | refine blk_drewN ?_ _ | refine blk_drew ?_ | refine blk_alloc ?_ _)); refine blk_far ?_ NB279_289.out _; (with_reducible repeat (first | refine blk_drewN ?_ _ | refine blk_drew ?_ | refine blk_alloc ?_ _)); exact BK279.out) hb); have n3_ := Aside0.mk (blk_below (g := gb289) (o := .cells #[.int .u32 t283, .int .u32 t284, .slice Ao28 t285.length co28] 42 (0, 0)) (by (with_reducible repeat (first | refine blk_drewN ?_ _ | refine blk_drew ?_ | refine blk_alloc ?_ _)); refine blk_put (cs := #[.int .u32 t283, .int .u32 t284, .slice none 0 0]) ?_ 2 _ rfl; (with_reducible repeat (first | refine blk_drewN ?_ _ | refine blk_drew ?_ | refine blk_alloc ?_ _)); refine blk_put (cs := #[.int .u32 t283, .int .u32 0, .slice none 0 0]) ?_ 1 _ rfl; (with_reducible repeat (first | refine blk_drewN ?_ _ | refine blk_drew ?_ | refine blk_alloc ?_ _)); refine blk_put (cs := #[.int .u32 0, .int .u32 0, .slice none 0 0]) ?_ 0 _ rfl; (with_reducible repeat (first | refine blk_drewN ?_ _ | refine blk_drew ?_ | refine blk_alloc ?_ _)); exact BK289.out) hb); have n4_ := Aside0.mk (below_step (by repeat (first | (with_reducible first | exact HB.out | apply below_alloc | apply pw_below_drewN | apply below_drew1 | refine below_set ?_ GE279.out | refine below_set ?_ GE289.out) | exact HB.out)) hb); clear HO287; clear BK279; clear BK289; clear HB; have HO287 := n0_; have HO294 := n1_; have BK279 := n2_; have BK289 := n3_; have HB := n4_; clear n0_ n1_ n2_ n3_ n4_; (try clear hb); (try clear hb2); (try clear hk); (try clear hi); (try clear ho0)) | ((with_reducible refine gate_dst (N := 8) rfl ?_); (try (refine gate_guard (by rfl) ?_; dsimp only)); refine box_event ?hg (N := 8) ?hd (cs := #[.int .u32 0, .int .u32 0, .slice none 0 0]) (t := 42) ?hr ?_; (case hd => rfl); (case hg => rfl); (case hr => first | (go_simp; done) | (go_simp; rfl)); intro gb296 hg w31 hbox hb; have n0_ := Aside0.mk (Kd.R_below (by (with_reducible repeat (first | apply Kd.R_alloc | apply Kd.R_drewN | apply Kd.R_drew)); exact HO287.out) hb); have n1_ := Aside0.mk (Kd.R_below (by (with_reducible repeat (first | apply Kd.R_alloc | apply Kd.R_drewN | apply Kd.R_drew)); exact HO294.out) hb); have n2_ := Aside0.mk (blk_below (g := gb279) (o := .cells #[.int .u32 a0_0, .int .u32 a0_1, .slice A0_2 l0_2.length c0_2] 42 (0, 0)) (by (with_reducible repeat (first | refine blk_drewN ?_ _ | refine blk_drew ?_ | refine blk_alloc ?_ _)); exact BK279.out) hb); have n3_ := Aside0.mk (blk_below (g := gb289) (o := .cells #[.int .u32 t283, .int .u32 t284, .slice Ao28 t285.length co28] 42 (0, 0)) (by (with_reducible repeat (first | refine blk_drewN ?_ _ | refine blk_drew ?_ | refine blk_alloc ?_ _)); exact BK289.out) hb); have n4_ := Aside0.mk (below_step (by repeat (first | (with_reducible first | exact HB.out | apply below_alloc | apply pw_below_drewN | apply below_drew1 | refine below_set ?_ GE279.out | refine below_set ?_ GE289.out) | exact HB.out)) hb); have n5_ := Aside0.mk (hbox); have n6_ := Aside0.mk ((by rw [hg]; exact (below_size (by repeat (first | (with_reducible first | exact HB.out | apply below_alloc | apply pw_below_drewN | apply below_drew1 | refine below_set ?_ GE279.out | refine below_set ?_ GE289.out) | exact HB.out))) : w.heap.size ≤ gb296)); have n7_ := Aside0.mk ((by rw [hg]; exact (below_size (by repeat (first | (with_reducible first | exact HB.out | apply below_alloc | apply pw_below_drewN | apply below_drew1 | refine below_set ?_ GE279.out | refine below_set ?_ GE289.out) | exact HB.out))) : w.heap.size ≤ gb296)); have n8_ := Aside0.mk ((by rw [hg]; exact Nat.ne_of_lt (blk_lt (g := gb279) (o := .cells #[.int .u32 a0_0, .int .u32 a0_1, .slice A0_2 l0_2.length c0_2] 42 (0, 0)) (by (with_reducible repeat (first | refine blk_drewN ?_ _ | refine blk_drew ?_ | refine blk_alloc ?_ _)); exact BK279.out)) : gb279 ≠ gb296)); have n9_ := Aside0.mk ((by rw [hg]; exact Nat.ne_of_gt (blk_lt (g := gb279) (o := .cells #[.int .u32 a0_0, .int .u32 a0_1, .slice A0_2 l0_2.length c0_2] 42 (0, 0)) (by (with_reducible repeat (first | refine blk_drewN ?_ _ | refine blk_drew ?_ | refine blk_alloc ?_ _)); exact BK279.out)) : gb296 ≠ gb279)); have n10_ := Aside0.mk ((by rw [hg]; exact Nat.ne_of_lt (blk_lt (g := gb289) (o := .cells #[.int .u32 t283, .int .u32 t284, .slice Ao28 t285.length co28] 42 (0, 0)) (by (with_reducible repeat (first | refine blk_drewN ?_ _ | refine blk_drew ?_ | refine blk_alloc ?_ _)); exact BK289.out)) : gb289 ≠ gb296)); have n11_ := Aside0.mk ((by rw [hg]; exact Nat.ne_of_gt (blk_lt (g := gb289) (o := .cells #[.int .u32 t283, .int .u32 t284, .slice Ao28 t285.length co28] 42 (0, 0)) (by (with_reducible repeat (first | refine blk_drewN ?_ _ | refine blk_drew ?_ | refine blk_alloc ?_ _)); exact BK289.out)) : gb296 ≠ gb289)); clear HO287; clear HO294; clear BK279; clear BK289; clear HB; have HO287 := n0_; have HO294 := n1_; have BK279 := n2_; have BK289 := n3_; have HB := n4_; have BK296 := n5_; have GW296 := n6_; have GE296 := n7_; have NB279_296 := n8_; have NB296_279 := n9_; have NB289_296 := n10_; have NB296_289 := n11_; clear n0_ n1_ n2_ n3_ n4_ n5_ n6_ n7_ n8_ n9_ n10_ n11_; clear hb hbox hg; have hnb32 := NB296_279.out; have hnc32 := NB279_296.out; have hnb33 := NB296_289.out; have hnc33 := NB289_296.out; have hcz34_0 : w31.cell? ⟨gb296, 0, none⟩ = some (.int .u32 0) := (blk_cell BK296.out 0).trans rfl; have hcz34_1 : w31.cell? ⟨gb296, 1, none⟩ = some (.int .u32 0) := (blk_cell BK296.out 1).trans rfl; have hcz34_2 : w31.cell? ⟨gb296, 2, none⟩ = some (.slice none 0 0) := (blk_cell BK296.out 2).trans rfl; have hfz34_0 := blk_frozen BK296.out 0; have hfz34_1 := blk_frozen BK296.out 1; have hfz34_2 := blk_frozen BK296.out 2; obtain ⟨Ao35, co35, eo35⟩ := Kd.R_slice HO294.out; subst eo35))
        (try simp only [Act.put, List.setIfInBounds_toArray, List.set_cons_zero, List.set_cons_succ])
        go_cut [57] (fun v57 wc => ∃ (kq : Nat) (x57_21 : Bool), v57 = .bool x57_21 ∧ Aside0 (bitloftlaw20_EncoderRange.j1 kq t280 x57_21 a0_0 a0_1 l0_2 t283 t284 t285 t290 t291 t292 = some r) ∧ Aside0 (kq ≤ kj3) ∧ Aside0 (Kd.R (Kd.int .u8) 5 wc w.heap.size (fun k_ => some k_ ≠ ((.slice Ao35 t292.length co35) : Value).ownBlock) (.slice Ao28 t285.length co28) t285) ∧ Aside0 (Kd.R (Kd.int .u8) 5 wc w.heap.size (fun k_ => some k_ ≠ ((.slice Ao28 t285.length co28) : Value).ownBlock) (.slice Ao35 t292.length co35) t292) ∧ Aside0 (wc.heap[gb279]? = some (.cells #[.int .u32 a0_0, .int .u32 a0_1, (.slice A0_2 l0_2.length c0_2)] 42 (0, 0))) ∧ Aside0 (wc.heap[gb289]? = some (.cells #[.int .u32 t283, .int .u32 t284, (.slice Ao28 t285.length co28)] 42 (0, 0))) ∧ Aside0 (wc.heap[gb296]? = some (.cells #[.int .u32 t290, .int .u32 t291, (.slice Ao35 t292.length co35)] 42 (0, 0))) ∧ Aside0 (Below w.heap.size w wc))
        case first =>
          have H := HC22.out
          clear HC22
          by_cases c36 : t288 = 0
          · rw [if_pos c36] at H
            have c36b0 : (t288 == 0) = true := beq_iff_eq.mpr c36
            have c36b1 : (t288 != 0) = false := bne_eq_false_iff_eq.mpr c36
            clear c36
            (first | rw [c36b0] | (simp only [i64_w, i32_w]; rw [c36b0]) | skip)
            by_cases c37 : t295 = 0
            · rw [if_pos c37] at H
              have c37b0 : (t295 == 0) = true := beq_iff_eq.mpr c37
              have c37b1 : (t295 != 0) = false := bne_eq_false_iff_eq.mpr c37
              clear c37
              replace H := Option.bind_eq_some_iff.mp H
              obtain ⟨t297, A380, H⟩ := H
              replace H : (if t297 = 0 then ((bitloftref20_Check.f t290 t291 t292).bind fun t298 => (bitloftlaw20_EncoderRange.j1 kj3 t280 (t298 != 0) a0_0 a0_1 l0_2 t283 t284 t285 t290 t291 t292)) else (bitloftlaw20_EncoderRange.j1 kj3 t280 true a0_0 a0_1 l0_2 t283 t284 t285 t290 t291 t292)) = some r := H
              have A38 := Aside0.mk A380
              clear A380
              by_cases c39 : t297 = 0
              · rw [if_pos c39] at H
                have c39b0 : (t297 == 0) = true := beq_iff_eq.mpr c39
                have c39b1 : (t297 != 0) = false := bne_eq_false_iff_eq.mpr c39
                clear c39
                replace H := Option.bind_eq_some_iff.mp H
                obtain ⟨t298, A400, H⟩ := H
                replace H : (bitloftlaw20_EncoderRange.j1 kj3 t280 (t298 != 0) a0_0 a0_1 l0_2 t283 t284 t285 t290 t291 t292) = some r := H
                have A40 := Aside0.mk A400
                clear A400
                have H' := Aside0.mk H
                clear H
                have hnb41 := NB289_279.out
                have hnc41 := NB279_289.out
                have hnb42 := NB289_296.out
                have hnc42 := NB296_289.out
                have hcz43_0 : w31.cell? ⟨gb289, 0, none⟩ = some (.int .u32 t283) := (blk_cell BK289.out 0).trans rfl
                have hcz43_1 : w31.cell? ⟨gb289, 1, none⟩ = some (.int .u32 t284) := (blk_cell BK289.out 1).trans rfl
                have hcz43_2 : w31.cell? ⟨gb289, 2, none⟩ = some (.slice Ao28 t285.length co28) := (blk_cell BK289.out 2).trans rfl
                have hfz43_0 := blk_frozen BK289.out 0
                have hfz43_1 := blk_frozen BK289.out 1
                have hfz43_2 := blk_frozen BK289.out 2
                go_wp2_with (first | (go_at_call 38; (with_reducible refine (bitloftref20_Check.calls t283 t284 _ _ t285 t297 _ ?side1 ?side2 A38.out).mono ?_); (case side1 => refine (Kd.R_reads' (e := 5) (base := w.heap.size) (ok := fun k_ => (True ∧ some k_ ≠ (.slice Ao35 t292.length co35 : Value).ownBlock)) (n := t285.length) (c := co28) ?_).2.2; exact (by (with_reducible repeat (first | apply Kd.R_alloc | apply Kd.R_drewN | apply Kd.R_drew)); exact (Kd.R_mono (Kd.R_far (p := ⟨gb296, 2, none⟩) (Kd.R_far (p := ⟨gb296, 1, none⟩) (Kd.R_far (p := ⟨gb296, 0, none⟩) (Kd.R_types HO287.out BK296.out (by decide)) (fun _ hk => hk.2) (.int .u32 t290)) (fun _ hk => hk.2) (.int .u32 t291)) (fun _ hk => hk.2) (.slice Ao35 t292.length co35)) (fun _ h_ => h_.1)))); (case side2 => exact (Kd.R_reads' HO287.out).2.1); rintro e w44 ⟨rfl, hb⟩; have n0_ := Aside0.mk (Kd.R_below (by (with_reducible repeat (first | apply Kd.R_alloc | apply Kd.R_drewN | apply Kd.R_drew)); exact (Kd.R_mono (Kd.R_far (p := ⟨gb296, 2, none⟩) (Kd.R_far (p := ⟨gb296, 1, none⟩) (Kd.R_far (p := ⟨gb296, 0, none⟩) (Kd.R_types HO287.out BK296.out (by decide)) (fun _ hk => hk.2) (.int .u32 t290)) (fun _ hk => hk.2) (.int .u32 t291)) (fun _ hk => hk.2) (.slice Ao35 t292.length co35)) (fun _ h_ => h_.1))) hb); have n1_ := Aside0.mk (Kd.R_below (by (with_reducible repeat (first | apply Kd.R_alloc | apply Kd.R_drewN | apply Kd.R_drew)); exact (Kd.R_mono (Kd.R_far (p := ⟨gb296, 2, none⟩) (Kd.R_far (p := ⟨gb296, 1, none⟩) (Kd.R_far (p := ⟨gb296, 0, none⟩) (Kd.R_types HO294.out BK296.out (by decide)) (fun _ hk => hk.2) (.int .u32 t290)) (fun _ hk => hk.2) (.int .u32 t291)) (fun _ hk => hk.2) (.slice Ao35 t292.length co35)) (fun _ h_ => h_.1))) hb); have n2_ := Aside0.mk (blk_below (g := gb279) (o := .cells #[.int .u32 a0_0, .int .u32 a0_1, .slice A0_2 l0_2.length c0_2] 42 (0, 0)) (by (with_reducible repeat (first | refine blk_drewN ?_ _ | refine blk_drew ?_ | refine blk_alloc ?_ _)); refine blk_far ?_ NB279_296.out _; (with_reducible repeat (first | refine blk_drewN ?_ _ | refine blk_drew ?_ | refine blk_alloc ?_ _)); refine blk_far ?_ NB279_296.out _; (with_reducible repeat (first | refine blk_drewN ?_ _ | refine blk_drew ?_ | refine blk_alloc ?_ _)); refine blk_far ?_ NB279_296.out _; (with_reducible repeat (first | refine blk_drewN ?_ _ | refine blk_drew ?_ | refine blk_alloc ?_ _)); exact BK279.out) hb); have n3_ := Aside0.mk (blk_below (g := gb289) (o := .cells #[.int .u32 t283, .int .u32 t284, .slice Ao28 t285.length co28] 42 (0, 0)) (by (with_reducible repeat (first | refine blk_drewN ?_ _ | refine blk_drew ?_ | refine blk_alloc ?_ _)); refine blk_far ?_ NB289_296.out _; (with_reducible repeat (first | refine blk_drewN ?_ _ | refine blk_drew ?_ | refine blk_alloc ?_ _)); refine blk_far ?_ NB289_296.out _; (with_reducible repeat (first | refine blk_drewN ?_ _ | refine blk_drew ?_ | refine blk_alloc ?_ _)); refine blk_far ?_ NB289_296.out _; (with_reducible repeat (first | refine blk_drewN ?_ _ | refine blk_drew ?_ | refine blk_alloc ?_ _)); exact BK289.out) hb); have n4_ := Aside0.mk (blk_below (g := gb296) (o := .cells #[.int .u32 t290, .int .u32 t291, .slice Ao35 t292.length co35] 42 (0, 0)) (by (with_reducible repeat (first | refine blk_drewN ?_ _ | refine blk_drew ?_ | refine blk_alloc ?_ _)); refine blk_put (cs := #[.int .u32 t290, .int .u32 t291, .slice none 0 0]) ?_ 2 _ rfl; (with_reducible repeat (first | refine blk_drewN ?_ _ | refine blk_drew ?_ | refine blk_alloc ?_ _)); refine blk_put (cs := #[.int .u32 t290, .int .u32 0, .slice none 0 0]) ?_ 1 _ rfl; (with_reducible repeat (first | refine blk_drewN ?_ _ | refine blk_drew ?_ | refine blk_alloc ?_ _)); refine blk_put (cs := #[.int .u32 0, .int .u32 0, .slice none 0 0]) ?_ 0 _ rfl; (with_reducible repeat (first | refine blk_drewN ?_ _ | refine blk_drew ?_ | refine blk_alloc ?_ _)); exact BK296.out) hb); have n5_ := Aside0.mk (below_step (by repeat (first | (with_reducible first | exact HB.out | apply below_alloc | apply pw_below_drewN | apply below_drew1 | refine below_set ?_ GE279.out | refine below_set ?_ GE289.out | refine below_set ?_ GE296.out) | exact HB.out)) hb); clear HO287; clear HO294; clear BK279; clear BK289; clear BK296; clear HB; have HO287 := n0_; have HO294 := n1_; have BK279 := n2_; have BK289 := n3_; have BK296 := n4_; have HB := n5_; clear n0_ n1_ n2_ n3_ n4_ n5_; (try clear hb); (try clear hb2); (try clear hk); (try clear hi); have hnb45 := NB296_279.out; have hnc45 := NB279_296.out; have hcz46_0 : w44.cell? ⟨gb296, 0, none⟩ = some (.int .u32 t290) := (blk_cell BK296.out 0).trans rfl; have hcz46_1 : w44.cell? ⟨gb296, 1, none⟩ = some (.int .u32 t291) := (blk_cell BK296.out 1).trans rfl; have hcz46_2 : w44.cell? ⟨gb296, 2, none⟩ = some (.slice Ao35 t292.length co35) := (blk_cell BK296.out 2).trans rfl; have hfz46_0 := blk_frozen BK296.out 0; have hfz46_1 := blk_frozen BK296.out 1; have hfz46_2 := blk_frozen BK296.out 2) | (go_at_call 38; (with_reducible refine (bitloftref20_Check.calls t290 t291 _ _ t292 t298 _ ?side1 ?side2 A40.out).mono ?_); (case side1 => repeat (first | exact (Kd.R_reads' HO294.out).2.2 | (with_reducible refine Kd.C_alloc ?_ _) | (with_reducible refine Kd.C_drewN ?_ _) | (with_reducible refine Kd.C_drew ?_))); (case side2 => exact (Kd.R_reads' HO294.out).2.1); rintro e w47 ⟨rfl, hb⟩; have n0_ := Aside0.mk (Kd.R_below (by (with_reducible repeat (first | apply Kd.R_alloc | apply Kd.R_drewN | apply Kd.R_drew)); exact HO287.out) hb); have n1_ := Aside0.mk (Kd.R_below (by (with_reducible repeat (first | apply Kd.R_alloc | apply Kd.R_drewN | apply Kd.R_drew)); exact HO294.out) hb); have n2_ := Aside0.mk (blk_below (g := gb279) (o := .cells #[.int .u32 a0_0, .int .u32 a0_1, .slice A0_2 l0_2.length c0_2] 42 (0, 0)) (by (with_reducible repeat (first | refine blk_drewN ?_ _ | refine blk_drew ?_ | refine blk_alloc ?_ _)); exact BK279.out) hb); have n3_ := Aside0.mk (blk_below (g := gb289) (o := .cells #[.int .u32 t283, .int .u32 t284, .slice Ao28 t285.length co28] 42 (0, 0)) (by (with_reducible repeat (first | refine blk_drewN ?_ _ | refine blk_drew ?_ | refine blk_alloc ?_ _)); exact BK289.out) hb); have n4_ := Aside0.mk (blk_below (g := gb296) (o := .cells #[.int .u32 t290, .int .u32 t291, .slice Ao35 t292.length co35] 42 (0, 0)) (by (with_reducible repeat (first | refine blk_drewN ?_ _ | refine blk_drew ?_ | refine blk_alloc ?_ _)); exact BK296.out) hb); have n5_ := Aside0.mk (below_step (by repeat (first | (with_reducible first | exact HB.out | apply below_alloc | apply pw_below_drewN | apply below_drew1 | refine below_set ?_ GE279.out | refine below_set ?_ GE289.out | refine below_set ?_ GE296.out) | exact HB.out)) hb); clear HO287; clear HO294; clear BK279; clear BK289; clear BK296; clear HB; have HO287 := n0_; have HO294 := n1_; have BK279 := n2_; have BK289 := n3_; have BK296 := n4_; have HB := n5_; clear n0_ n1_ n2_ n3_ n4_ n5_; (try clear hb); (try clear hb2); (try clear hk); (try clear hi)))
                go_meet
                case rel => exact ⟨_, ((t298 != 0)), (by first | rfl | (simp; done) | (simp [*]; done)), H', ⟨by have := HJ3.out; first | omega | exact Nat.le_refl _⟩, ⟨by (with_reducible repeat (first | apply Kd.R_alloc | apply Kd.R_drewN | apply Kd.R_drew)); exact Kd.R_mono HO287.out (fun _ hk => by first | exact hk.2 | exact hk | exact hk.1 | exact hk.2 | exact hk.1.1 | exact hk.1.2)⟩, ⟨by (with_reducible repeat (first | apply Kd.R_alloc | apply Kd.R_drewN | apply Kd.R_drew)); exact Kd.R_mono HO294.out (fun _ hk => by first | exact hk.2 | exact hk | exact hk.1 | exact hk.2 | exact hk.1.1 | exact hk.1.2)⟩, ⟨by (with_reducible repeat (first | refine blk_drewN ?_ _ | refine blk_drew ?_ | refine blk_alloc ?_ _)); exact BK279.out⟩, ⟨by (with_reducible repeat (first | refine blk_drewN ?_ _ | refine blk_drew ?_ | refine blk_alloc ?_ _)); exact BK289.out⟩, ⟨by (with_reducible repeat (first | refine blk_drewN ?_ _ | refine blk_drew ?_ | refine blk_alloc ?_ _)); exact BK296.out⟩, ⟨by repeat (first | (with_reducible first | exact HB.out | apply below_alloc | apply pw_below_drewN | apply below_drew1 | refine below_set ?_ GE279.out | refine below_set ?_ GE289.out | refine below_set ?_ GE296.out) | exact HB.out)⟩⟩
              · rw [if_neg c39] at H
                have c39b0 : (t297 == 0) = false := beq_eq_false_iff_ne.mpr c39
                have c39b1 : (t297 != 0) = true := bne_iff_ne.mpr c39
                have H' := Aside0.mk H
                clear H
                have hnb48 := NB289_279.out
                have hnc48 := NB279_289.out
                have hnb49 := NB289_296.out
                have hnc49 := NB296_289.out
                have hcz50_0 : w31.cell? ⟨gb289, 0, none⟩ = some (.int .u32 t283) := (blk_cell BK289.out 0).trans rfl
                have hcz50_1 : w31.cell? ⟨gb289, 1, none⟩ = some (.int .u32 t284) := (blk_cell BK289.out 1).trans rfl
                have hcz50_2 : w31.cell? ⟨gb289, 2, none⟩ = some (.slice Ao28 t285.length co28) := (blk_cell BK289.out 2).trans rfl
                have hfz50_0 := blk_frozen BK289.out 0
                have hfz50_1 := blk_frozen BK289.out 1
                have hfz50_2 := blk_frozen BK289.out 2
                go_wp2_with (first | (go_at_call 38; (with_reducible refine (bitloftref20_Check.calls t283 t284 _ _ t285 t297 _ ?side1 ?side2 A38.out).mono ?_); (case side1 => refine (Kd.R_reads' (e := 5) (base := w.heap.size) (ok := fun k_ => (True ∧ some k_ ≠ (.slice Ao35 t292.length co35 : Value).ownBlock)) (n := t285.length) (c := co28) ?_).2.2; exact (by (with_reducible repeat (first | apply Kd.R_alloc | apply Kd.R_drewN | apply Kd.R_drew)); exact (Kd.R_mono (Kd.R_far (p := ⟨gb296, 2, none⟩) (Kd.R_far (p := ⟨gb296, 1, none⟩) (Kd.R_far (p := ⟨gb296, 0, none⟩) (Kd.R_types HO287.out BK296.out (by decide)) (fun _ hk => hk.2) (.int .u32 t290)) (fun _ hk => hk.2) (.int .u32 t291)) (fun _ hk => hk.2) (.slice Ao35 t292.length co35)) (fun _ h_ => h_.1)))); (case side2 => exact (Kd.R_reads' HO287.out).2.1); rintro e w51 ⟨rfl, hb⟩; have n0_ := Aside0.mk (Kd.R_below (by (with_reducible repeat (first | apply Kd.R_alloc | apply Kd.R_drewN | apply Kd.R_drew)); exact (Kd.R_mono (Kd.R_far (p := ⟨gb296, 2, none⟩) (Kd.R_far (p := ⟨gb296, 1, none⟩) (Kd.R_far (p := ⟨gb296, 0, none⟩) (Kd.R_types HO287.out BK296.out (by decide)) (fun _ hk => hk.2) (.int .u32 t290)) (fun _ hk => hk.2) (.int .u32 t291)) (fun _ hk => hk.2) (.slice Ao35 t292.length co35)) (fun _ h_ => h_.1))) hb); have n1_ := Aside0.mk (Kd.R_below (by (with_reducible repeat (first | apply Kd.R_alloc | apply Kd.R_drewN | apply Kd.R_drew)); exact (Kd.R_mono (Kd.R_far (p := ⟨gb296, 2, none⟩) (Kd.R_far (p := ⟨gb296, 1, none⟩) (Kd.R_far (p := ⟨gb296, 0, none⟩) (Kd.R_types HO294.out BK296.out (by decide)) (fun _ hk => hk.2) (.int .u32 t290)) (fun _ hk => hk.2) (.int .u32 t291)) (fun _ hk => hk.2) (.slice Ao35 t292.length co35)) (fun _ h_ => h_.1))) hb); have n2_ := Aside0.mk (blk_below (g := gb279) (o := .cells #[.int .u32 a0_0, .int .u32 a0_1, .slice A0_2 l0_2.length c0_2] 42 (0, 0)) (by (with_reducible repeat (first | refine blk_drewN ?_ _ | refine blk_drew ?_ | refine blk_alloc ?_ _)); refine blk_far ?_ NB279_296.out _; (with_reducible repeat (first | refine blk_drewN ?_ _ | refine blk_drew ?_ | refine blk_alloc ?_ _)); refine blk_far ?_ NB279_296.out _; (with_reducible repeat (first | refine blk_drewN ?_ _ | refine blk_drew ?_ | refine blk_alloc ?_ _)); refine blk_far ?_ NB279_296.out _; (with_reducible repeat (first | refine blk_drewN ?_ _ | refine blk_drew ?_ | refine blk_alloc ?_ _)); exact BK279.out) hb); have n3_ := Aside0.mk (blk_below (g := gb289) (o := .cells #[.int .u32 t283, .int .u32 t284, .slice Ao28 t285.length co28] 42 (0, 0)) (by (with_reducible repeat (first | refine blk_drewN ?_ _ | refine blk_drew ?_ | refine blk_alloc ?_ _)); refine blk_far ?_ NB289_296.out _; (with_reducible repeat (first | refine blk_drewN ?_ _ | refine blk_drew ?_ | refine blk_alloc ?_ _)); refine blk_far ?_ NB289_296.out _; (with_reducible repeat (first | refine blk_drewN ?_ _ | refine blk_drew ?_ | refine blk_alloc ?_ _)); refine blk_far ?_ NB289_296.out _; (with_reducible repeat (first | refine blk_drewN ?_ _ | refine blk_drew ?_ | refine blk_alloc ?_ _)); exact BK289.out) hb); have n4_ := Aside0.mk (blk_below (g := gb296) (o := .cells #[.int .u32 t290, .int .u32 t291, .slice Ao35 t292.length co35] 42 (0, 0)) (by (with_reducible repeat (first | refine blk_drewN ?_ _ | refine blk_drew ?_ | refine blk_alloc ?_ _)); refine blk_put (cs := #[.int .u32 t290, .int .u32 t291, .slice none 0 0]) ?_ 2 _ rfl; (with_reducible repeat (first | refine blk_drewN ?_ _ | refine blk_drew ?_ | refine blk_alloc ?_ _)); refine blk_put (cs := #[.int .u32 t290, .int .u32 0, .slice none 0 0]) ?_ 1 _ rfl; (with_reducible repeat (first | refine blk_drewN ?_ _ | refine blk_drew ?_ | refine blk_alloc ?_ _)); refine blk_put (cs := #[.int .u32 0, .int .u32 0, .slice none 0 0]) ?_ 0 _ rfl; (with_reducible repeat (first | refine blk_drewN ?_ _ | refine blk_drew ?_ | refine blk_alloc ?_ _)); exact BK296.out) hb); have n5_ := Aside0.mk (below_step (by repeat (first | (with_reducible first | exact HB.out | apply below_alloc | apply pw_below_drewN | apply below_drew1 | refine below_set ?_ GE279.out | refine below_set ?_ GE289.out | refine below_set ?_ GE296.out) | exact HB.out)) hb); clear HO287; clear HO294; clear BK279; clear BK289; clear BK296; clear HB; have HO287 := n0_; have HO294 := n1_; have BK279 := n2_; have BK289 := n3_; have BK296 := n4_; have HB := n5_; clear n0_ n1_ n2_ n3_ n4_ n5_; (try clear hb); (try clear hb2); (try clear hk); (try clear hi)))
                go_meet
                case rel => exact ⟨_, (true), (by first | rfl | (simp; done) | (simp [*]; done)), H', ⟨by have := HJ3.out; first | omega | exact Nat.le_refl _⟩, ⟨by (with_reducible repeat (first | apply Kd.R_alloc | apply Kd.R_drewN | apply Kd.R_drew)); exact Kd.R_mono HO287.out (fun _ hk => by first | exact hk.2 | exact hk | exact hk.1 | exact hk.2 | exact hk.1.1 | exact hk.1.2)⟩, ⟨by (with_reducible repeat (first | apply Kd.R_alloc | apply Kd.R_drewN | apply Kd.R_drew)); exact Kd.R_mono HO294.out (fun _ hk => by first | exact hk.2 | exact hk | exact hk.1 | exact hk.2 | exact hk.1.1 | exact hk.1.2)⟩, ⟨by (with_reducible repeat (first | refine blk_drewN ?_ _ | refine blk_drew ?_ | refine blk_alloc ?_ _)); exact BK279.out⟩, ⟨by (with_reducible repeat (first | refine blk_drewN ?_ _ | refine blk_drew ?_ | refine blk_alloc ?_ _)); exact BK289.out⟩, ⟨by (with_reducible repeat (first | refine blk_drewN ?_ _ | refine blk_drew ?_ | refine blk_alloc ?_ _)); exact BK296.out⟩, ⟨by repeat (first | (with_reducible first | exact HB.out | apply below_alloc | apply pw_below_drewN | apply below_drew1 | refine below_set ?_ GE279.out | refine below_set ?_ GE289.out | refine below_set ?_ GE296.out) | exact HB.out)⟩⟩
            · rw [if_neg c37] at H
              have c37b0 : (t295 == 0) = false := beq_eq_false_iff_ne.mpr c37
              have c37b1 : (t295 != 0) = true := bne_iff_ne.mpr c37
              have H' := Aside0.mk H
              clear H
              go_wp2
              go_meet
              case rel => exact ⟨_, (true), (by first | rfl | (simp; done) | (simp [*]; done)), H', ⟨by have := HJ3.out; first | omega | exact Nat.le_refl _⟩, ⟨by (with_reducible repeat (first | apply Kd.R_alloc | apply Kd.R_drewN | apply Kd.R_drew)); exact Kd.R_mono (Kd.R_far (p := ⟨gb296, 2, none⟩) (Kd.R_far (p := ⟨gb296, 1, none⟩) (Kd.R_far (p := ⟨gb296, 0, none⟩) (Kd.R_types HO287.out BK296.out (by decide)) (fun _ hk => hk.2) (.int .u32 t290)) (fun _ hk => hk.2) (.int .u32 t291)) (fun _ hk => hk.2) (.slice Ao35 t292.length co35)) (fun _ hk => hk.1.2)⟩, ⟨by (with_reducible repeat (first | apply Kd.R_alloc | apply Kd.R_drewN | apply Kd.R_drew)); exact Kd.R_mono (Kd.R_far (p := ⟨gb296, 2, none⟩) (Kd.R_far (p := ⟨gb296, 1, none⟩) (Kd.R_far (p := ⟨gb296, 0, none⟩) (Kd.R_types HO294.out BK296.out (by decide)) (fun _ hk => hk.2) (.int .u32 t290)) (fun _ hk => hk.2) (.int .u32 t291)) (fun _ hk => hk.2) (.slice Ao35 t292.length co35)) (fun _ hk => hk.1.2)⟩, ⟨by (with_reducible repeat (first | refine blk_drewN ?_ _ | refine blk_drew ?_ | refine blk_alloc ?_ _)); refine blk_far ?_ NB279_296.out _; (with_reducible repeat (first | refine blk_drewN ?_ _ | refine blk_drew ?_ | refine blk_alloc ?_ _)); refine blk_far ?_ NB279_296.out _; (with_reducible repeat (first | refine blk_drewN ?_ _ | refine blk_drew ?_ | refine blk_alloc ?_ _)); refine blk_far ?_ NB279_296.out _; (with_reducible repeat (first | refine blk_drewN ?_ _ | refine blk_drew ?_ | refine blk_alloc ?_ _)); exact BK279.out⟩, ⟨by (with_reducible repeat (first | refine blk_drewN ?_ _ | refine blk_drew ?_ | refine blk_alloc ?_ _)); refine blk_far ?_ NB289_296.out _; (with_reducible repeat (first | refine blk_drewN ?_ _ | refine blk_drew ?_ | refine blk_alloc ?_ _)); refine blk_far ?_ NB289_296.out _; (with_reducible repeat (first | refine blk_drewN ?_ _ | refine blk_drew ?_ | refine blk_alloc ?_ _)); refine blk_far ?_ NB289_296.out _; (with_reducible repeat (first | refine blk_drewN ?_ _ | refine blk_drew ?_ | refine blk_alloc ?_ _)); exact BK289.out⟩, ⟨by (with_reducible repeat (first | refine blk_drewN ?_ _ | refine blk_drew ?_ | refine blk_alloc ?_ _)); refine blk_put (cs := #[.int .u32 t290, .int .u32 t291, .slice none 0 0]) ?_ 2 _ rfl; (with_reducible repeat (first | refine blk_drewN ?_ _ | refine blk_drew ?_ | refine blk_alloc ?_ _)); refine blk_put (cs := #[.int .u32 t290, .int .u32 0, .slice none 0 0]) ?_ 1 _ rfl; (with_reducible repeat (first | refine blk_drewN ?_ _ | refine blk_drew ?_ | refine blk_alloc ?_ _)); refine blk_put (cs := #[.int .u32 0, .int .u32 0, .slice none 0 0]) ?_ 0 _ rfl; (with_reducible repeat (first | refine blk_drewN ?_ _ | refine blk_drew ?_ | refine blk_alloc ?_ _)); exact BK296.out⟩, ⟨by repeat (first | (with_reducible first | exact HB.out | apply below_alloc | apply pw_below_drewN | apply below_drew1 | refine below_set ?_ GE279.out | refine below_set ?_ GE289.out | refine below_set ?_ GE296.out) | exact HB.out)⟩⟩
          · rw [if_neg c36] at H
            have c36b0 : (t288 == 0) = false := beq_eq_false_iff_ne.mpr c36
            have c36b1 : (t288 != 0) = true := bne_iff_ne.mpr c36
            (first | rw [c36b0] | (simp only [i64_w, i32_w]; rw [c36b0]) | skip)
            have H' := Aside0.mk H
            clear H
            go_wp2
            go_meet
            case rel => exact ⟨_, (true), (by first | rfl | (simp; done) | (simp [*]; done)), H', ⟨by have := HJ3.out; first | omega | exact Nat.le_refl _⟩, ⟨by (with_reducible repeat (first | apply Kd.R_alloc | apply Kd.R_drewN | apply Kd.R_drew)); exact Kd.R_mono (Kd.R_far (p := ⟨gb296, 2, none⟩) (Kd.R_far (p := ⟨gb296, 1, none⟩) (Kd.R_far (p := ⟨gb296, 0, none⟩) (Kd.R_types HO287.out BK296.out (by decide)) (fun _ hk => hk.2) (.int .u32 t290)) (fun _ hk => hk.2) (.int .u32 t291)) (fun _ hk => hk.2) (.slice Ao35 t292.length co35)) (fun _ hk => hk.1.2)⟩, ⟨by (with_reducible repeat (first | apply Kd.R_alloc | apply Kd.R_drewN | apply Kd.R_drew)); exact Kd.R_mono (Kd.R_far (p := ⟨gb296, 2, none⟩) (Kd.R_far (p := ⟨gb296, 1, none⟩) (Kd.R_far (p := ⟨gb296, 0, none⟩) (Kd.R_types HO294.out BK296.out (by decide)) (fun _ hk => hk.2) (.int .u32 t290)) (fun _ hk => hk.2) (.int .u32 t291)) (fun _ hk => hk.2) (.slice Ao35 t292.length co35)) (fun _ hk => hk.1.2)⟩, ⟨by (with_reducible repeat (first | refine blk_drewN ?_ _ | refine blk_drew ?_ | refine blk_alloc ?_ _)); refine blk_far ?_ NB279_296.out _; (with_reducible repeat (first | refine blk_drewN ?_ _ | refine blk_drew ?_ | refine blk_alloc ?_ _)); refine blk_far ?_ NB279_296.out _; (with_reducible repeat (first | refine blk_drewN ?_ _ | refine blk_drew ?_ | refine blk_alloc ?_ _)); refine blk_far ?_ NB279_296.out _; (with_reducible repeat (first | refine blk_drewN ?_ _ | refine blk_drew ?_ | refine blk_alloc ?_ _)); exact BK279.out⟩, ⟨by (with_reducible repeat (first | refine blk_drewN ?_ _ | refine blk_drew ?_ | refine blk_alloc ?_ _)); refine blk_far ?_ NB289_296.out _; (with_reducible repeat (first | refine blk_drewN ?_ _ | refine blk_drew ?_ | refine blk_alloc ?_ _)); refine blk_far ?_ NB289_296.out _; (with_reducible repeat (first | refine blk_drewN ?_ _ | refine blk_drew ?_ | refine blk_alloc ?_ _)); refine blk_far ?_ NB289_296.out _; (with_reducible repeat (first | refine blk_drewN ?_ _ | refine blk_drew ?_ | refine blk_alloc ?_ _)); exact BK289.out⟩, ⟨by (with_reducible repeat (first | refine blk_drewN ?_ _ | refine blk_drew ?_ | refine blk_alloc ?_ _)); refine blk_put (cs := #[.int .u32 t290, .int .u32 t291, .slice none 0 0]) ?_ 2 _ rfl; (with_reducible repeat (first | refine blk_drewN ?_ _ | refine blk_drew ?_ | refine blk_alloc ?_ _)); refine blk_put (cs := #[.int .u32 t290, .int .u32 0, .slice none 0 0]) ?_ 1 _ rfl; (with_reducible repeat (first | refine blk_drewN ?_ _ | refine blk_drew ?_ | refine blk_alloc ?_ _)); refine blk_put (cs := #[.int .u32 0, .int .u32 0, .slice none 0 0]) ?_ 0 _ rfl; (with_reducible repeat (first | refine blk_drewN ?_ _ | refine blk_drew ?_ | refine blk_alloc ?_ _)); exact BK296.out⟩, ⟨by repeat (first | (with_reducible first | exact HB.out | apply below_alloc | apply pw_below_drewN | apply below_drew1 | refine below_set ?_ GE279.out | refine below_set ?_ GE289.out | refine below_set ?_ GE296.out) | exact HB.out)⟩⟩
        case rest =>
          clear HC22
          try clear c1
          try clear c2
          try clear p2
          try clear c3
          try clear c4
          try clear c7
          try clear c7b0
          try clear c7b1
          try clear c10
          try clear c10b0
          try clear c10b1
          try clear c12
          try clear c19
          try clear c26
          try clear c30
          try clear c32
          try clear c33
          try clear c36
          try clear c36b0
          try clear c36b1
          try clear c37
          try clear c37b0
          try clear c37b1
          try clear c39
          try clear c39b0
          try clear c39b1
          try clear c41
          try clear c42
          try clear c45
          try clear c48
          try clear c49
          try clear hcz13_0
          try clear hcz13_1
          try clear hcz13_2
          try clear hcz15_0
          try clear hcz15_1
          try clear hcz15_2
          try clear hcz17_0
          try clear hcz17_1
          try clear hcz17_2
          try clear hcz23_0
          try clear hcz23_1
          try clear hcz23_2
          try clear hcz27_0
          try clear hcz27_1
          try clear hcz27_2
          try clear hcz29_0
          try clear hcz29_1
          try clear hcz29_2
          try clear hcz34_0
          try clear hcz34_1
          try clear hcz34_2
          try clear hcz43_0
          try clear hcz43_1
          try clear hcz43_2
          try clear hcz46_0
          try clear hcz46_1
          try clear hcz46_2
          try clear hcz50_0
          try clear hcz50_1
          try clear hcz50_2
          try clear hcz8_0
          try clear hcz8_1
          try clear hcz8_2
          try clear hfz13_0
          try clear hfz13_1
          try clear hfz13_2
          try clear hfz15_0
          try clear hfz15_1
          try clear hfz15_2
          try clear hfz17_0
          try clear hfz17_1
          try clear hfz17_2
          try clear hfz23_0
          try clear hfz23_1
          try clear hfz23_2
          try clear hfz27_0
          try clear hfz27_1
          try clear hfz27_2
          try clear hfz29_0
          try clear hfz29_1
          try clear hfz29_2
          try clear hfz34_0
          try clear hfz34_1
          try clear hfz34_2
          try clear hfz43_0
          try clear hfz43_1
          try clear hfz43_2
          try clear hfz46_0
          try clear hfz46_1
          try clear hfz46_2
          try clear hfz50_0
          try clear hfz50_1
          try clear hfz50_2
          try clear hfz8_0
          try clear hfz8_1
          try clear hfz8_2
          try clear p2
          obtain ⟨kq, x57_21, rfl, HA, HJ21, HO_290002, HO_297002, BK279, BK289, BK296, HB⟩ := hcut
          cases kq with
          | zero => exact absurd HA.out (by simp [bitloftlaw20_EncoderRange.j1])
          | succ kj21 =>
            have H := HA.out
            clear HA
            simp only [bitloftlaw20_EncoderRange.j1] at H
            by_cases c52 : x57_21 = true
            · subst c52
              have H1 : (none) = some r := by rw [if_pos rfl] at H; exact H
              clear H
              have H := H1
              clear H1
              exact absurd H (by simp)
            · replace c52 := Bool.eq_false_iff.mpr c52
              subst c52
              have H1 : (if (t285.length : Int) = (l0_2.length : Int) then (if t283 = a0_0 then (if (t292.length : Int) = (l0_2.length : Int) then (bitloftlaw20_EncoderRange.j2 kj21 t280 (t291 != a0_1) a0_0 a0_1 l0_2 t283 t284 t285 t290 t291 t292) else (bitloftlaw20_EncoderRange.j2 kj21 t280 false a0_0 a0_1 l0_2 t283 t284 t285 t290 t291 t292)) else (bitloftlaw20_EncoderRange.j2 kj21 t280 true a0_0 a0_1 l0_2 t283 t284 t285 t290 t291 t292)) else (if (t292.length : Int) = (l0_2.length : Int) then (bitloftlaw20_EncoderRange.j2 kj21 t280 (t291 != a0_1) a0_0 a0_1 l0_2 t283 t284 t285 t290 t291 t292) else (bitloftlaw20_EncoderRange.j2 kj21 t280 false a0_0 a0_1 l0_2 t283 t284 t285 t290 t291 t292))) = some r := by rw [if_neg (show ¬ (false = true) by decide)] at H; exact H
              clear H
              have H := H1
              clear H1
              have HC53 := Aside0.mk H
              clear H
              go_upto_region 8 with (fail)
              go_cut [87] (fun v87 wc => ∃ (kq : Nat) (x87_52 : Bool), v87 = .bool x87_52 ∧ Aside0 (bitloftlaw20_EncoderRange.j2 kq t280 x87_52 a0_0 a0_1 l0_2 t283 t284 t285 t290 t291 t292 = some r) ∧ Aside0 (kq ≤ kj21) ∧ Aside0 (Kd.R (Kd.int .u8) 5 wc w.heap.size (fun k_ => some k_ ≠ ((.slice Ao35 t292.length co35) : Value).ownBlock) (.slice Ao28 t285.length co28) t285) ∧ Aside0 (Kd.R (Kd.int .u8) 5 wc w.heap.size (fun k_ => some k_ ≠ ((.slice Ao28 t285.length co28) : Value).ownBlock) (.slice Ao35 t292.length co35) t292) ∧ Aside0 (wc.heap[gb279]? = some (.cells #[.int .u32 a0_0, .int .u32 a0_1, (.slice A0_2 l0_2.length c0_2)] 42 (0, 0))) ∧ Aside0 (wc.heap[gb289]? = some (.cells #[.int .u32 t283, .int .u32 t284, (.slice Ao28 t285.length co28)] 42 (0, 0))) ∧ Aside0 (wc.heap[gb296]? = some (.cells #[.int .u32 t290, .int .u32 t291, (.slice Ao35 t292.length co35)] 42 (0, 0))) ∧ Aside0 (Below w.heap.size w wc))
              case first =>
                have H := HC53.out
                clear HC53
                by_cases c54 : (t285.length : Int) = (l0_2.length : Int)
                · rw [if_pos c54] at H
                  have c54b0 : ((t285.length : Int) == (l0_2.length : Int)) = true := beq_iff_eq.mpr c54
                  have c54b1 : ((t285.length : Int) != (l0_2.length : Int)) = false := bne_eq_false_iff_eq.mpr c54
                  have c54b2 : (t285.length == l0_2.length) = true := by first | simpa using c54 | (simp at c54 ⊢; omega)
                  clear c54
                  (first | rw [c54b0] | (simp only [i64_w, i32_w]; rw [c54b0]) | skip)
                  by_cases c55 : t283 = a0_0
                  · rw [if_pos c55] at H
                    have c55b0 : (t283 == a0_0) = true := beq_iff_eq.mpr c55
                    have c55b1 : (t283 != a0_0) = false := bne_eq_false_iff_eq.mpr c55
                    clear c55
                    by_cases c56 : (t292.length : Int) = (l0_2.length : Int)
                    · rw [if_pos c56] at H
                      have c56b0 : ((t292.length : Int) == (l0_2.length : Int)) = true := beq_iff_eq.mpr c56
                      have c56b1 : ((t292.length : Int) != (l0_2.length : Int)) = false := bne_eq_false_iff_eq.mpr c56
                      have c56b2 : (t292.length == l0_2.length) = true := by first | simpa using c56 | (simp at c56 ⊢; omega)
                      clear c56
                      have H' := Aside0.mk H
                      clear H
                      have hnb57 := NB289_279.out
                      have hnc57 := NB279_289.out
                      have hnb58 := NB289_296.out
                      have hnc58 := NB296_289.out
                      have hcz59_0 : wc.cell? ⟨gb289, 0, none⟩ = some (.int .u32 t283) := (blk_cell BK289.out 0).trans rfl
                      have hcz59_1 : wc.cell? ⟨gb289, 1, none⟩ = some (.int .u32 t284) := (blk_cell BK289.out 1).trans rfl
                      have hcz59_2 : wc.cell? ⟨gb289, 2, none⟩ = some (.slice Ao28 t285.length co28) := (blk_cell BK289.out 2).trans rfl
                      have hfz59_0 := blk_frozen BK289.out 0
                      have hfz59_1 := blk_frozen BK289.out 1
                      have hfz59_2 := blk_frozen BK289.out 2
                      have hnb60 := NB279_296.out
                      have hnc60 := NB296_279.out
                      have hcz61_0 : wc.cell? ⟨gb279, 0, none⟩ = some (.int .u32 a0_0) := (blk_cell BK279.out 0).trans rfl
                      have hcz61_1 : wc.cell? ⟨gb279, 1, none⟩ = some (.int .u32 a0_1) := (blk_cell BK279.out 1).trans rfl
                      have hcz61_2 : wc.cell? ⟨gb279, 2, none⟩ = some (.slice A0_2 l0_2.length c0_2) := (blk_cell BK279.out 2).trans rfl
                      have hfz61_0 := blk_frozen BK279.out 0
                      have hfz61_1 := blk_frozen BK279.out 1
                      have hfz61_2 := blk_frozen BK279.out 2
                      have hcz62_0 : wc.cell? ⟨gb296, 0, none⟩ = some (.int .u32 t290) := (blk_cell BK296.out 0).trans rfl
                      have hcz62_1 : wc.cell? ⟨gb296, 1, none⟩ = some (.int .u32 t291) := (blk_cell BK296.out 1).trans rfl
                      have hcz62_2 : wc.cell? ⟨gb296, 2, none⟩ = some (.slice Ao35 t292.length co35) := (blk_cell BK296.out 2).trans rfl
                      have hfz62_0 := blk_frozen BK296.out 0
                      have hfz62_1 := blk_frozen BK296.out 1
                      have hfz62_2 := blk_frozen BK296.out 2
                      go_wp2
                      go_meet
                      case rel => exact ⟨_, ((t291 != a0_1)), (by first | rfl | (simp; done) | (simp [*]; done)), H', ⟨by have := HJ3.out; have := HJ21.out; first | omega | exact Nat.le_refl _⟩, ⟨by (with_reducible repeat (first | apply Kd.R_alloc | apply Kd.R_drewN | apply Kd.R_drew)); exact HO_290002.out⟩, ⟨by (with_reducible repeat (first | apply Kd.R_alloc | apply Kd.R_drewN | apply Kd.R_drew)); exact HO_297002.out⟩, ⟨by (with_reducible repeat (first | refine blk_drewN ?_ _ | refine blk_drew ?_ | refine blk_alloc ?_ _)); exact BK279.out⟩, ⟨by (with_reducible repeat (first | refine blk_drewN ?_ _ | refine blk_drew ?_ | refine blk_alloc ?_ _)); exact BK289.out⟩, ⟨by (with_reducible repeat (first | refine blk_drewN ?_ _ | refine blk_drew ?_ | refine blk_alloc ?_ _)); exact BK296.out⟩, ⟨by repeat (first | (with_reducible first | exact HB.out | apply below_alloc | apply pw_below_drewN | apply below_drew1 | refine below_set ?_ GE279.out | refine below_set ?_ GE289.out | refine below_set ?_ GE296.out) | exact HB.out)⟩⟩
                    · rw [if_neg c56] at H
                      have c56b0 : ((t292.length : Int) == (l0_2.length : Int)) = false := beq_eq_false_iff_ne.mpr c56
                      have c56b1 : ((t292.length : Int) != (l0_2.length : Int)) = true := bne_iff_ne.mpr c56
                      have c56b2 : (t292.length == l0_2.length) = false := by first | simpa using c56 | (simp at c56 ⊢; omega)
                      have H' := Aside0.mk H
                      clear H
                      have hnb63 := NB289_279.out
                      have hnc63 := NB279_289.out
                      have hnb64 := NB289_296.out
                      have hnc64 := NB296_289.out
                      have hcz65_0 : wc.cell? ⟨gb289, 0, none⟩ = some (.int .u32 t283) := (blk_cell BK289.out 0).trans rfl
                      have hcz65_1 : wc.cell? ⟨gb289, 1, none⟩ = some (.int .u32 t284) := (blk_cell BK289.out 1).trans rfl
                      have hcz65_2 : wc.cell? ⟨gb289, 2, none⟩ = some (.slice Ao28 t285.length co28) := (blk_cell BK289.out 2).trans rfl
                      have hfz65_0 := blk_frozen BK289.out 0
                      have hfz65_1 := blk_frozen BK289.out 1
                      have hfz65_2 := blk_frozen BK289.out 2
                      have hnb66 := NB279_296.out
                      have hnc66 := NB296_279.out
                      have hcz67_0 : wc.cell? ⟨gb279, 0, none⟩ = some (.int .u32 a0_0) := (blk_cell BK279.out 0).trans rfl
                      have hcz67_1 : wc.cell? ⟨gb279, 1, none⟩ = some (.int .u32 a0_1) := (blk_cell BK279.out 1).trans rfl
                      have hcz67_2 : wc.cell? ⟨gb279, 2, none⟩ = some (.slice A0_2 l0_2.length c0_2) := (blk_cell BK279.out 2).trans rfl
                      have hfz67_0 := blk_frozen BK279.out 0
                      have hfz67_1 := blk_frozen BK279.out 1
                      have hfz67_2 := blk_frozen BK279.out 2
                      have hcz68_0 : wc.cell? ⟨gb296, 0, none⟩ = some (.int .u32 t290) := (blk_cell BK296.out 0).trans rfl
                      have hcz68_1 : wc.cell? ⟨gb296, 1, none⟩ = some (.int .u32 t291) := (blk_cell BK296.out 1).trans rfl
                      have hcz68_2 : wc.cell? ⟨gb296, 2, none⟩ = some (.slice Ao35 t292.length co35) := (blk_cell BK296.out 2).trans rfl
                      have hfz68_0 := blk_frozen BK296.out 0
                      have hfz68_1 := blk_frozen BK296.out 1
                      have hfz68_2 := blk_frozen BK296.out 2
                      go_wp2
                      go_meet
                      case rel => exact ⟨_, (false), (by first | rfl | (simp; done) | (simp [*]; done)), H', ⟨by have := HJ3.out; have := HJ21.out; first | omega | exact Nat.le_refl _⟩, ⟨by (with_reducible repeat (first | apply Kd.R_alloc | apply Kd.R_drewN | apply Kd.R_drew)); exact HO_290002.out⟩, ⟨by (with_reducible repeat (first | apply Kd.R_alloc | apply Kd.R_drewN | apply Kd.R_drew)); exact HO_297002.out⟩, ⟨by (with_reducible repeat (first | refine blk_drewN ?_ _ | refine blk_drew ?_ | refine blk_alloc ?_ _)); exact BK279.out⟩, ⟨by (with_reducible repeat (first | refine blk_drewN ?_ _ | refine blk_drew ?_ | refine blk_alloc ?_ _)); exact BK289.out⟩, ⟨by (with_reducible repeat (first | refine blk_drewN ?_ _ | refine blk_drew ?_ | refine blk_alloc ?_ _)); exact BK296.out⟩, ⟨by repeat (first | (with_reducible first | exact HB.out | apply below_alloc | apply pw_below_drewN | apply below_drew1 | refine below_set ?_ GE279.out | refine below_set ?_ GE289.out | refine below_set ?_ GE296.out) | exact HB.out)⟩⟩
                  · rw [if_neg c55] at H
                    have c55b0 : (t283 == a0_0) = false := beq_eq_false_iff_ne.mpr c55
                    have c55b1 : (t283 != a0_0) = true := bne_iff_ne.mpr c55
                    have H' := Aside0.mk H
                    clear H
                    have hnb69 := NB289_279.out
                    have hnc69 := NB279_289.out
                    have hnb70 := NB289_296.out
                    have hnc70 := NB296_289.out
                    have hcz71_0 : wc.cell? ⟨gb289, 0, none⟩ = some (.int .u32 t283) := (blk_cell BK289.out 0).trans rfl
                    have hcz71_1 : wc.cell? ⟨gb289, 1, none⟩ = some (.int .u32 t284) := (blk_cell BK289.out 1).trans rfl
                    have hcz71_2 : wc.cell? ⟨gb289, 2, none⟩ = some (.slice Ao28 t285.length co28) := (blk_cell BK289.out 2).trans rfl
                    have hfz71_0 := blk_frozen BK289.out 0
                    have hfz71_1 := blk_frozen BK289.out 1
                    have hfz71_2 := blk_frozen BK289.out 2
                    have hnb72 := NB279_296.out
                    have hnc72 := NB296_279.out
                    have hcz73_0 : wc.cell? ⟨gb279, 0, none⟩ = some (.int .u32 a0_0) := (blk_cell BK279.out 0).trans rfl
                    have hcz73_1 : wc.cell? ⟨gb279, 1, none⟩ = some (.int .u32 a0_1) := (blk_cell BK279.out 1).trans rfl
                    have hcz73_2 : wc.cell? ⟨gb279, 2, none⟩ = some (.slice A0_2 l0_2.length c0_2) := (blk_cell BK279.out 2).trans rfl
                    have hfz73_0 := blk_frozen BK279.out 0
                    have hfz73_1 := blk_frozen BK279.out 1
                    have hfz73_2 := blk_frozen BK279.out 2
                    go_wp2
                    go_meet
                    case rel => exact ⟨_, (true), (by first | rfl | (simp; done) | (simp [*]; done)), H', ⟨by have := HJ3.out; have := HJ21.out; first | omega | exact Nat.le_refl _⟩, ⟨by (with_reducible repeat (first | apply Kd.R_alloc | apply Kd.R_drewN | apply Kd.R_drew)); exact HO_290002.out⟩, ⟨by (with_reducible repeat (first | apply Kd.R_alloc | apply Kd.R_drewN | apply Kd.R_drew)); exact HO_297002.out⟩, ⟨by (with_reducible repeat (first | refine blk_drewN ?_ _ | refine blk_drew ?_ | refine blk_alloc ?_ _)); exact BK279.out⟩, ⟨by (with_reducible repeat (first | refine blk_drewN ?_ _ | refine blk_drew ?_ | refine blk_alloc ?_ _)); exact BK289.out⟩, ⟨by (with_reducible repeat (first | refine blk_drewN ?_ _ | refine blk_drew ?_ | refine blk_alloc ?_ _)); exact BK296.out⟩, ⟨by repeat (first | (with_reducible first | exact HB.out | apply below_alloc | apply pw_below_drewN | apply below_drew1 | refine below_set ?_ GE279.out | refine below_set ?_ GE289.out | refine below_set ?_ GE296.out) | exact HB.out)⟩⟩
                · rw [if_neg c54] at H
                  have c54b0 : ((t285.length : Int) == (l0_2.length : Int)) = false := beq_eq_false_iff_ne.mpr c54
                  have c54b1 : ((t285.length : Int) != (l0_2.length : Int)) = true := bne_iff_ne.mpr c54
                  have c54b2 : (t285.length == l0_2.length) = false := by first | simpa using c54 | (simp at c54 ⊢; omega)
                  (first | rw [c54b0] | (simp only [i64_w, i32_w]; rw [c54b0]) | skip)
                  by_cases c74 : (t292.length : Int) = (l0_2.length : Int)
                  · rw [if_pos c74] at H
                    have c74b0 : ((t292.length : Int) == (l0_2.length : Int)) = true := beq_iff_eq.mpr c74
                    have c74b1 : ((t292.length : Int) != (l0_2.length : Int)) = false := bne_eq_false_iff_eq.mpr c74
                    have c74b2 : (t292.length == l0_2.length) = true := by first | simpa using c74 | (simp at c74 ⊢; omega)
                    clear c74
                    have H' := Aside0.mk H
                    clear H
                    have hnb75 := NB289_279.out
                    have hnc75 := NB279_289.out
                    have hnb76 := NB289_296.out
                    have hnc76 := NB296_289.out
                    have hcz77_0 : wc.cell? ⟨gb289, 0, none⟩ = some (.int .u32 t283) := (blk_cell BK289.out 0).trans rfl
                    have hcz77_1 : wc.cell? ⟨gb289, 1, none⟩ = some (.int .u32 t284) := (blk_cell BK289.out 1).trans rfl
                    have hcz77_2 : wc.cell? ⟨gb289, 2, none⟩ = some (.slice Ao28 t285.length co28) := (blk_cell BK289.out 2).trans rfl
                    have hfz77_0 := blk_frozen BK289.out 0
                    have hfz77_1 := blk_frozen BK289.out 1
                    have hfz77_2 := blk_frozen BK289.out 2
                    have hnb78 := NB279_296.out
                    have hnc78 := NB296_279.out
                    have hcz79_0 : wc.cell? ⟨gb279, 0, none⟩ = some (.int .u32 a0_0) := (blk_cell BK279.out 0).trans rfl
                    have hcz79_1 : wc.cell? ⟨gb279, 1, none⟩ = some (.int .u32 a0_1) := (blk_cell BK279.out 1).trans rfl
                    have hcz79_2 : wc.cell? ⟨gb279, 2, none⟩ = some (.slice A0_2 l0_2.length c0_2) := (blk_cell BK279.out 2).trans rfl
                    have hfz79_0 := blk_frozen BK279.out 0
                    have hfz79_1 := blk_frozen BK279.out 1
                    have hfz79_2 := blk_frozen BK279.out 2
                    have hcz80_0 : wc.cell? ⟨gb296, 0, none⟩ = some (.int .u32 t290) := (blk_cell BK296.out 0).trans rfl
                    have hcz80_1 : wc.cell? ⟨gb296, 1, none⟩ = some (.int .u32 t291) := (blk_cell BK296.out 1).trans rfl
                    have hcz80_2 : wc.cell? ⟨gb296, 2, none⟩ = some (.slice Ao35 t292.length co35) := (blk_cell BK296.out 2).trans rfl
                    have hfz80_0 := blk_frozen BK296.out 0
                    have hfz80_1 := blk_frozen BK296.out 1
                    have hfz80_2 := blk_frozen BK296.out 2
                    go_wp2
                    go_meet
                    case rel => exact ⟨_, ((t291 != a0_1)), (by first | rfl | (simp; done) | (simp [*]; done)), H', ⟨by have := HJ3.out; have := HJ21.out; first | omega | exact Nat.le_refl _⟩, ⟨by (with_reducible repeat (first | apply Kd.R_alloc | apply Kd.R_drewN | apply Kd.R_drew)); exact HO_290002.out⟩, ⟨by (with_reducible repeat (first | apply Kd.R_alloc | apply Kd.R_drewN | apply Kd.R_drew)); exact HO_297002.out⟩, ⟨by (with_reducible repeat (first | refine blk_drewN ?_ _ | refine blk_drew ?_ | refine blk_alloc ?_ _)); exact BK279.out⟩, ⟨by (with_reducible repeat (first | refine blk_drewN ?_ _ | refine blk_drew ?_ | refine blk_alloc ?_ _)); exact BK289.out⟩, ⟨by (with_reducible repeat (first | refine blk_drewN ?_ _ | refine blk_drew ?_ | refine blk_alloc ?_ _)); exact BK296.out⟩, ⟨by repeat (first | (with_reducible first | exact HB.out | apply below_alloc | apply pw_below_drewN | apply below_drew1 | refine below_set ?_ GE279.out | refine below_set ?_ GE289.out | refine below_set ?_ GE296.out) | exact HB.out)⟩⟩
                  · rw [if_neg c74] at H
                    have c74b0 : ((t292.length : Int) == (l0_2.length : Int)) = false := beq_eq_false_iff_ne.mpr c74
                    have c74b1 : ((t292.length : Int) != (l0_2.length : Int)) = true := bne_iff_ne.mpr c74
                    have c74b2 : (t292.length == l0_2.length) = false := by first | simpa using c74 | (simp at c74 ⊢; omega)
                    have H' := Aside0.mk H
                    clear H
                    have hnb81 := NB289_279.out
                    have hnc81 := NB279_289.out
                    have hnb82 := NB289_296.out
                    have hnc82 := NB296_289.out
                    have hcz83_0 : wc.cell? ⟨gb289, 0, none⟩ = some (.int .u32 t283) := (blk_cell BK289.out 0).trans rfl
                    have hcz83_1 : wc.cell? ⟨gb289, 1, none⟩ = some (.int .u32 t284) := (blk_cell BK289.out 1).trans rfl
                    have hcz83_2 : wc.cell? ⟨gb289, 2, none⟩ = some (.slice Ao28 t285.length co28) := (blk_cell BK289.out 2).trans rfl
                    have hfz83_0 := blk_frozen BK289.out 0
                    have hfz83_1 := blk_frozen BK289.out 1
                    have hfz83_2 := blk_frozen BK289.out 2
                    have hnb84 := NB279_296.out
                    have hnc84 := NB296_279.out
                    have hcz85_0 : wc.cell? ⟨gb279, 0, none⟩ = some (.int .u32 a0_0) := (blk_cell BK279.out 0).trans rfl
                    have hcz85_1 : wc.cell? ⟨gb279, 1, none⟩ = some (.int .u32 a0_1) := (blk_cell BK279.out 1).trans rfl
                    have hcz85_2 : wc.cell? ⟨gb279, 2, none⟩ = some (.slice A0_2 l0_2.length c0_2) := (blk_cell BK279.out 2).trans rfl
                    have hfz85_0 := blk_frozen BK279.out 0
                    have hfz85_1 := blk_frozen BK279.out 1
                    have hfz85_2 := blk_frozen BK279.out 2
                    have hcz86_0 : wc.cell? ⟨gb296, 0, none⟩ = some (.int .u32 t290) := (blk_cell BK296.out 0).trans rfl
                    have hcz86_1 : wc.cell? ⟨gb296, 1, none⟩ = some (.int .u32 t291) := (blk_cell BK296.out 1).trans rfl
                    have hcz86_2 : wc.cell? ⟨gb296, 2, none⟩ = some (.slice Ao35 t292.length co35) := (blk_cell BK296.out 2).trans rfl
                    have hfz86_0 := blk_frozen BK296.out 0
                    have hfz86_1 := blk_frozen BK296.out 1
                    have hfz86_2 := blk_frozen BK296.out 2
                    go_wp2
                    go_meet
                    case rel => exact ⟨_, (false), (by first | rfl | (simp; done) | (simp [*]; done)), H', ⟨by have := HJ3.out; have := HJ21.out; first | omega | exact Nat.le_refl _⟩, ⟨by (with_reducible repeat (first | apply Kd.R_alloc | apply Kd.R_drewN | apply Kd.R_drew)); exact HO_290002.out⟩, ⟨by (with_reducible repeat (first | apply Kd.R_alloc | apply Kd.R_drewN | apply Kd.R_drew)); exact HO_297002.out⟩, ⟨by (with_reducible repeat (first | refine blk_drewN ?_ _ | refine blk_drew ?_ | refine blk_alloc ?_ _)); exact BK279.out⟩, ⟨by (with_reducible repeat (first | refine blk_drewN ?_ _ | refine blk_drew ?_ | refine blk_alloc ?_ _)); exact BK289.out⟩, ⟨by (with_reducible repeat (first | refine blk_drewN ?_ _ | refine blk_drew ?_ | refine blk_alloc ?_ _)); exact BK296.out⟩, ⟨by repeat (first | (with_reducible first | exact HB.out | apply below_alloc | apply pw_below_drewN | apply below_drew1 | refine below_set ?_ GE279.out | refine below_set ?_ GE289.out | refine below_set ?_ GE296.out) | exact HB.out)⟩⟩
              case rest =>
                clear HC53
                try clear c1
                try clear c2
                try clear p2
                try clear c3
                try clear c4
                try clear c5
                try clear c6
                try clear c7
                try clear c7b0
                try clear c7b1
                try clear c8
                try clear c10
                try clear c10b0
                try clear c10b1
                try clear c12
                try clear c19
                try clear c26
                try clear c30
                try clear c32
                try clear c33
                try clear c36
                try clear c36b0
                try clear c36b1
                try clear c37
                try clear c37b0
                try clear c37b1
                try clear c39
                try clear c39b0
                try clear c39b1
                try clear c41
                try clear c42
                try clear c45
                try clear c48
                try clear c49
                try clear c52
                try clear c54
                try clear c54b0
                try clear c54b1
                try clear c54b2
                try clear c55
                try clear c55b0
                try clear c55b1
                try clear c56
                try clear c56b0
                try clear c56b1
                try clear c56b2
                try clear c57
                try clear c58
                try clear c60
                try clear c63
                try clear c64
                try clear c66
                try clear c69
                try clear c70
                try clear c72
                try clear c74
                try clear c74b0
                try clear c74b1
                try clear c74b2
                try clear c75
                try clear c76
                try clear c78
                try clear c81
                try clear c82
                try clear c84
                try clear hcz13_0
                try clear hcz13_1
                try clear hcz13_2
                try clear hcz15_0
                try clear hcz15_1
                try clear hcz15_2
                try clear hcz17_0
                try clear hcz17_1
                try clear hcz17_2
                try clear hcz23_0
                try clear hcz23_1
                try clear hcz23_2
                try clear hcz27_0
                try clear hcz27_1
                try clear hcz27_2
                try clear hcz29_0
                try clear hcz29_1
                try clear hcz29_2
                try clear hcz34_0
                try clear hcz34_1
                try clear hcz34_2
                try clear hcz43_0
                try clear hcz43_1
                try clear hcz43_2
                try clear hcz46_0
                try clear hcz46_1
                try clear hcz46_2
                try clear hcz50_0
                try clear hcz50_1
                try clear hcz50_2
                try clear hcz59_0
                try clear hcz59_1
                try clear hcz59_2
                try clear hcz61_0
                try clear hcz61_1
                try clear hcz61_2
                try clear hcz62_0
                try clear hcz62_1
                try clear hcz62_2
                try clear hcz65_0
                try clear hcz65_1
                try clear hcz65_2
                try clear hcz67_0
                try clear hcz67_1
                try clear hcz67_2
                try clear hcz68_0
                try clear hcz68_1
                try clear hcz68_2
                try clear hcz71_0
                try clear hcz71_1
                try clear hcz71_2
                try clear hcz73_0
                try clear hcz73_1
                try clear hcz73_2
                try clear hcz77_0
                try clear hcz77_1
                try clear hcz77_2
                try clear hcz79_0
                try clear hcz79_1
                try clear hcz79_2
                try clear hcz80_0
                try clear hcz80_1
                try clear hcz80_2
                try clear hcz83_0
                try clear hcz83_1
                try clear hcz83_2
                try clear hcz85_0
                try clear hcz85_1
                try clear hcz85_2
                try clear hcz86_0
                try clear hcz86_1
                try clear hcz86_2
                try clear hcz8_0
                try clear hcz8_1
                try clear hcz8_2
                try clear hfz13_0
                try clear hfz13_1
                try clear hfz13_2
                try clear hfz15_0
                try clear hfz15_1
                try clear hfz15_2
                try clear hfz17_0
                try clear hfz17_1
                try clear hfz17_2
                try clear hfz23_0
                try clear hfz23_1
                try clear hfz23_2
                try clear hfz27_0
                try clear hfz27_1
                try clear hfz27_2
                try clear hfz29_0
                try clear hfz29_1
                try clear hfz29_2
                try clear hfz34_0
                try clear hfz34_1
                try clear hfz34_2
                try clear hfz43_0
                try clear hfz43_1
                try clear hfz43_2
                try clear hfz46_0
                try clear hfz46_1
                try clear hfz46_2
                try clear hfz50_0
                try clear hfz50_1
                try clear hfz50_2
                try clear hfz59_0
                try clear hfz59_1
                try clear hfz59_2
                try clear hfz61_0
                try clear hfz61_1
                try clear hfz61_2
                try clear hfz62_0
                try clear hfz62_1
                try clear hfz62_2
                try clear hfz65_0
                try clear hfz65_1
                try clear hfz65_2
                try clear hfz67_0
                try clear hfz67_1
                try clear hfz67_2
                try clear hfz68_0
                try clear hfz68_1
                try clear hfz68_2
                try clear hfz71_0
                try clear hfz71_1
                try clear hfz71_2
                try clear hfz73_0
                try clear hfz73_1
                try clear hfz73_2
                try clear hfz77_0
                try clear hfz77_1
                try clear hfz77_2
                try clear hfz79_0
                try clear hfz79_1
                try clear hfz79_2
                try clear hfz80_0
                try clear hfz80_1
                try clear hfz80_2
                try clear hfz83_0
                try clear hfz83_1
                try clear hfz83_2
                try clear hfz85_0
                try clear hfz85_1
                try clear hfz85_2
                try clear hfz86_0
                try clear hfz86_1
                try clear hfz86_2
                try clear hfz8_0
                try clear hfz8_1
                try clear hfz8_2
                try clear p2
                obtain ⟨kq, x87_52, rfl, HA, HJ52, HO_290002, HO_297002, BK279, BK289, BK296, HB⟩ := hcut
                cases kq with
                | zero => exact absurd HA.out (by simp [bitloftlaw20_EncoderRange.j2])
                | succ kj52 =>
                  have H := HA.out
                  clear HA
                  simp only [bitloftlaw20_EncoderRange.j2] at H
                  by_cases c87 : x87_52 = true
                  · subst c87
                    have H1 : (none) = some r := by rw [if_pos rfl] at H; exact H
                    clear H
                    have H := H1
                    clear H1
                    exact absurd H (by simp)
                  · replace c87 := Bool.eq_false_iff.mpr c87
                    subst c87
                    have H1 : (if (t285.length : Int) > (l0_2.length : Int) then (some t280) else (if (t292.length : Int) > (l0_2.length : Int) then (some t280) else (if t280 = true then (some ((IntKind.u64.wrap ((IntKind.u64.wrap (t284)) + 1)) == (IntKind.u64.wrap (t290)))) else (none)))) = some r := by rw [if_neg (show ¬ (false = true) by decide)] at H; exact H
                    clear H
                    have H := H1
                    clear H1
                    by_cases c88 : (t285.length : Int) > (l0_2.length : Int)
                    · rw [if_pos c88] at H
                      have c88b0 : decide ((l0_2.length : Int) < (t285.length : Int)) = true := decide_eq_true c88
                      have c88b1 : decide (l0_2.length < t285.length) = true := decide_eq_true (Int.ofNat_lt.mp c88)
                      clear c88
                      obtain rfl := Option.some.inj H
                      have hnb89 := NB289_279.out
                      have hnc89 := NB279_289.out
                      have hnb90 := NB289_296.out
                      have hnc90 := NB296_289.out
                      have hcz91_0 : wc.cell? ⟨gb289, 0, none⟩ = some (.int .u32 t283) := (blk_cell BK289.out 0).trans rfl
                      have hcz91_1 : wc.cell? ⟨gb289, 1, none⟩ = some (.int .u32 t284) := (blk_cell BK289.out 1).trans rfl
                      have hcz91_2 : wc.cell? ⟨gb289, 2, none⟩ = some (.slice Ao28 t285.length co28) := (blk_cell BK289.out 2).trans rfl
                      have hfz91_0 := blk_frozen BK289.out 0
                      have hfz91_1 := blk_frozen BK289.out 1
                      have hfz91_2 := blk_frozen BK289.out 2
                      have hnb92 := NB279_296.out
                      have hnc92 := NB296_279.out
                      have hcz93_0 : wc.cell? ⟨gb279, 0, none⟩ = some (.int .u32 a0_0) := (blk_cell BK279.out 0).trans rfl
                      have hcz93_1 : wc.cell? ⟨gb279, 1, none⟩ = some (.int .u32 a0_1) := (blk_cell BK279.out 1).trans rfl
                      have hcz93_2 : wc.cell? ⟨gb279, 2, none⟩ = some (.slice A0_2 l0_2.length c0_2) := (blk_cell BK279.out 2).trans rfl
                      have hfz93_0 := blk_frozen BK279.out 0
                      have hfz93_1 := blk_frozen BK279.out 1
                      have hfz93_2 := blk_frozen BK279.out 2
                      go_wp2
                      go_ret
                      exact ⟨by first | rfl | (simp [errW_none, errW_some] <;> rfl) | (simp [*, errW_none, errW_some] <;> rfl), by repeat (first | (with_reducible first | exact HB.out | apply below_alloc | apply pw_below_drewN | apply below_drew1 | refine below_set ?_ GE279.out | refine below_set ?_ GE289.out | refine below_set ?_ GE296.out) | exact HB.out)⟩
                    · rw [if_neg c88] at H
                      have c88b0 : decide ((l0_2.length : Int) < (t285.length : Int)) = false := decide_eq_false c88
                      have c88b1 : decide (l0_2.length < t285.length) = false := decide_eq_false (fun h => c88 (Int.ofNat_lt.mpr h))
                      clear c88
                      by_cases c94 : (t292.length : Int) > (l0_2.length : Int)
                      · rw [if_pos c94] at H
                        have c94b0 : decide ((l0_2.length : Int) < (t292.length : Int)) = true := decide_eq_true c94
                        have c94b1 : decide (l0_2.length < t292.length) = true := decide_eq_true (Int.ofNat_lt.mp c94)
                        clear c94
                        obtain rfl := Option.some.inj H
                        have hnb95 := NB289_279.out
                        have hnc95 := NB279_289.out
                        have hnb96 := NB289_296.out
                        have hnc96 := NB296_289.out
                        have hcz97_0 : wc.cell? ⟨gb289, 0, none⟩ = some (.int .u32 t283) := (blk_cell BK289.out 0).trans rfl
                        have hcz97_1 : wc.cell? ⟨gb289, 1, none⟩ = some (.int .u32 t284) := (blk_cell BK289.out 1).trans rfl
                        have hcz97_2 : wc.cell? ⟨gb289, 2, none⟩ = some (.slice Ao28 t285.length co28) := (blk_cell BK289.out 2).trans rfl
                        have hfz97_0 := blk_frozen BK289.out 0
                        have hfz97_1 := blk_frozen BK289.out 1
                        have hfz97_2 := blk_frozen BK289.out 2
                        have hnb98 := NB279_296.out
                        have hnc98 := NB296_279.out
                        have hcz99_0 : wc.cell? ⟨gb279, 0, none⟩ = some (.int .u32 a0_0) := (blk_cell BK279.out 0).trans rfl
                        have hcz99_1 : wc.cell? ⟨gb279, 1, none⟩ = some (.int .u32 a0_1) := (blk_cell BK279.out 1).trans rfl
                        have hcz99_2 : wc.cell? ⟨gb279, 2, none⟩ = some (.slice A0_2 l0_2.length c0_2) := (blk_cell BK279.out 2).trans rfl
                        have hfz99_0 := blk_frozen BK279.out 0
                        have hfz99_1 := blk_frozen BK279.out 1
                        have hfz99_2 := blk_frozen BK279.out 2
                        have hcz100_0 : wc.cell? ⟨gb296, 0, none⟩ = some (.int .u32 t290) := (blk_cell BK296.out 0).trans rfl
                        have hcz100_1 : wc.cell? ⟨gb296, 1, none⟩ = some (.int .u32 t291) := (blk_cell BK296.out 1).trans rfl
                        have hcz100_2 : wc.cell? ⟨gb296, 2, none⟩ = some (.slice Ao35 t292.length co35) := (blk_cell BK296.out 2).trans rfl
                        have hfz100_0 := blk_frozen BK296.out 0
                        have hfz100_1 := blk_frozen BK296.out 1
                        have hfz100_2 := blk_frozen BK296.out 2
                        go_wp2
                        go_ret
                        exact ⟨by first | rfl | (simp [errW_none, errW_some] <;> rfl) | (simp [*, errW_none, errW_some] <;> rfl), by repeat (first | (with_reducible first | exact HB.out | apply below_alloc | apply pw_below_drewN | apply below_drew1 | refine below_set ?_ GE279.out | refine below_set ?_ GE289.out | refine below_set ?_ GE296.out) | exact HB.out)⟩
                      · rw [if_neg c94] at H
                        have c94b0 : decide ((l0_2.length : Int) < (t292.length : Int)) = false := decide_eq_false c94
                        have c94b1 : decide (l0_2.length < t292.length) = false := decide_eq_false (fun h => c94 (Int.ofNat_lt.mpr h))
                        clear c94
                        by_cases c101 : t280 = true
                        · subst c101
                          have H1 : (some ((IntKind.u64.wrap ((IntKind.u64.wrap (t284)) + 1)) == (IntKind.u64.wrap (t290)))) = some r := by rw [if_pos rfl] at H; exact H
                          clear H
                          have H := H1
                          clear H1
                          obtain rfl := Option.some.inj H
                          have hnb102 := NB289_279.out
                          have hnc102 := NB279_289.out
                          have hnb103 := NB289_296.out
                          have hnc103 := NB296_289.out
                          have hcz104_0 : wc.cell? ⟨gb289, 0, none⟩ = some (.int .u32 t283) := (blk_cell BK289.out 0).trans rfl
                          have hcz104_1 : wc.cell? ⟨gb289, 1, none⟩ = some (.int .u32 t284) := (blk_cell BK289.out 1).trans rfl
                          have hcz104_2 : wc.cell? ⟨gb289, 2, none⟩ = some (.slice Ao28 t285.length co28) := (blk_cell BK289.out 2).trans rfl
                          have hfz104_0 := blk_frozen BK289.out 0
                          have hfz104_1 := blk_frozen BK289.out 1
                          have hfz104_2 := blk_frozen BK289.out 2
                          have hnb105 := NB279_296.out
                          have hnc105 := NB296_279.out
                          have hcz106_0 : wc.cell? ⟨gb279, 0, none⟩ = some (.int .u32 a0_0) := (blk_cell BK279.out 0).trans rfl
                          have hcz106_1 : wc.cell? ⟨gb279, 1, none⟩ = some (.int .u32 a0_1) := (blk_cell BK279.out 1).trans rfl
                          have hcz106_2 : wc.cell? ⟨gb279, 2, none⟩ = some (.slice A0_2 l0_2.length c0_2) := (blk_cell BK279.out 2).trans rfl
                          have hfz106_0 := blk_frozen BK279.out 0
                          have hfz106_1 := blk_frozen BK279.out 1
                          have hfz106_2 := blk_frozen BK279.out 2
                          have hcz107_0 : wc.cell? ⟨gb296, 0, none⟩ = some (.int .u32 t290) := (blk_cell BK296.out 0).trans rfl
                          have hcz107_1 : wc.cell? ⟨gb296, 1, none⟩ = some (.int .u32 t291) := (blk_cell BK296.out 1).trans rfl
                          have hcz107_2 : wc.cell? ⟨gb296, 2, none⟩ = some (.slice Ao35 t292.length co35) := (blk_cell BK296.out 2).trans rfl
                          have hfz107_0 := blk_frozen BK296.out 0
                          have hfz107_1 := blk_frozen BK296.out 1
                          have hfz107_2 := blk_frozen BK296.out 2
                          go_wp2
                          go_ret
                          exact ⟨by first | rfl | (simp [errW_none, errW_some] <;> rfl) | (simp [*, errW_none, errW_some] <;> rfl), by repeat (first | (with_reducible first | exact HB.out | apply below_alloc | apply pw_below_drewN | apply below_drew1 | refine below_set ?_ GE279.out | refine below_set ?_ GE289.out | refine below_set ?_ GE296.out) | exact HB.out)⟩
                        · replace c101 := Bool.eq_false_iff.mpr c101
                          subst c101
                          have H1 : (none) = some r := by rw [if_neg (show ¬ (false = true) by decide)] at H; exact H
                          clear H
                          have H := H1
                          clear H1
                          exact absurd H (by simp)

end Go.Proofs.Ytgapkifgddjijaa.QB
