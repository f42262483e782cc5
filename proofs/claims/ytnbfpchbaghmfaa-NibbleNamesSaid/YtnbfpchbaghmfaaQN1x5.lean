-- Written by qprint.py (a program of this session) out of the translation's print. Not trusted: Lean checks it.
import Derived.Test.YtnbfpchbaghmfaaQN1x0
import Derived.Test.YtnbfpchbaghmfaaQN1x3
import Derived.Test.YtnbfpchbaghmfaaQN1x4
namespace Go.Proofs.Ytnbfpchbaghmfaa.QN1
open Go.RowKit Go.Proofs.YtnbfpchbaghmfaaW.PrintWords Go.Proofs.YtnbfpchbaghmfaaW.PrintLast Go.Proofs.YtnbfpchbaghmfaaW.PrintMore
attribute [local go_sem] max2_int min2_int max_two min_two max_three min_three max_four min_four   -- for this text's walks alone
set_option linter.unusedVariables false
set_option linter.unusedSimpArgs false

/-! ### bitloftlaw14_NibbleNode: function 3 -/
mutual
def bitloftlaw14_NibbleNode.j0 : Nat → Bool → Bool → Int → Int → Option (Bool)
  | 0, _, _, _, _ => none
  | k + 1, x5, x30, x144000, x145000 => if x30 = true then (some x5) else ((nibble_Node.f k x144000).bind fun bt148 => ((nibble_Node.f k x145000).bind fun bt150 => ((nibble_Second.f x144000).bind fun bt152 => ((nibble_Second.f x145000).bind fun bt154 => ((nibble_Bits.f k x144000).bind fun bt156 => ((nibble_Bits.f k x145000).bind fun bt160 => (if bt148.2 = 0 then (if bt150.2 = 0 then (if bt152.2 = 0 then (if bt154.2 = 0 then (if bt156.2 = 0 then (if bt160.2 = 0 then (if bt148.1 < 1 then (bitloftlaw14_NibbleNode.j1 k x5 bt148.1 bt150.1 bt152.1 bt154.1 bt156.1 bt160.1 true) else (if bt148.1 > 15 then (bitloftlaw14_NibbleNode.j1 k x5 bt148.1 bt150.1 bt152.1 bt154.1 bt156.1 bt160.1 true) else (if bt150.1 < 1 then (bitloftlaw14_NibbleNode.j1 k x5 bt148.1 bt150.1 bt152.1 bt154.1 bt156.1 bt160.1 true) else (if bt150.1 > 15 then (bitloftlaw14_NibbleNode.j1 k x5 bt148.1 bt150.1 bt152.1 bt154.1 bt156.1 bt160.1 true) else (if (bt152.1 != (decide ((bt156.1.length : Int) ≥ 4))) = true then (bitloftlaw14_NibbleNode.j1 k x5 bt148.1 bt150.1 bt152.1 bt154.1 bt156.1 bt160.1 true) else (bitloftlaw14_NibbleNode.j1 k x5 bt148.1 bt150.1 bt152.1 bt154.1 bt156.1 bt160.1 (bt154.1 != (decide ((bt160.1.length : Int) ≥ 4))))))))) else (bitloftlaw14_NibbleNode.j1 k x5 bt148.1 bt150.1 bt152.1 bt154.1 bt156.1 bt160.1 true)) else (bitloftlaw14_NibbleNode.j1 k x5 bt148.1 bt150.1 bt152.1 bt154.1 bt156.1 bt160.1 true)) else (bitloftlaw14_NibbleNode.j1 k x5 bt148.1 bt150.1 bt152.1 bt154.1 bt156.1 bt160.1 true)) else (bitloftlaw14_NibbleNode.j1 k x5 bt148.1 bt150.1 bt152.1 bt154.1 bt156.1 bt160.1 true)) else (bitloftlaw14_NibbleNode.j1 k x5 bt148.1 bt150.1 bt152.1 bt154.1 bt156.1 bt160.1 true)) else (bitloftlaw14_NibbleNode.j1 k x5 bt148.1 bt150.1 bt152.1 bt154.1 bt156.1 bt160.1 true))))))))
def bitloftlaw14_NibbleNode.j1 : Nat → Bool → Int → Int → Bool → Bool → List Bool → List Bool → Bool → Option (Bool)
  | 0, _, _, _, _, _, _, _, _ => none
  | k + 1, x5, x6, x8, x10, x12, x14, x16, x113 => if x113 = true then (none) else (if x10 = true then (if 4 ≤ (x14.length : Int) then (bitloftlaw14_NibbleNode.j2 k x5 x6 x8 x12 (x14.drop (4 : Int).toNat) x16) else (none)) else (bitloftlaw14_NibbleNode.j2 k x5 x6 x8 x12 x14 x16))
def bitloftlaw14_NibbleNode.j2 : Nat → Bool → Int → Int → Bool → List Bool → List Bool → Option (Bool)
  | 0, _, _, _, _, _, _ => none
  | k + 1, x5, x6, x8, x12, x14, x16 => if x12 = true then (if 4 ≤ (x16.length : Int) then ((some (x16.drop (4 : Int).toNat : List Bool)).bind fun y167 => (if x5 = true then ((bitloftref14_Part.f k x14).bind fun t170 => (if t170 = x6 then ((bitloftref14_Part.f k y167).bind fun t171 => (if t171 = x8 then ((bitloftref14_Same.f k x14 y167).bind fun t172 => (some ((x6 == x8) == t172))) else (none))) else (none))) else (none))) else (none)) else (if x5 = true then ((bitloftref14_Part.f k x14).bind fun t173 => (if t173 = x6 then ((bitloftref14_Part.f k x16).bind fun t174 => (if t174 = x8 then ((bitloftref14_Same.f k x14 x16).bind fun t175 => (some ((x6 == x8) == t175))) else (none))) else (none))) else (none))
end
def bitloftlaw14_NibbleNode.f (k : Nat) (a0_0 : Int) (a1_0 : Int) : Option (Bool) := (bitloftlaw14_alive.f k).bind fun t145 => ((bitloftref14_Check.f a0_0).bind fun t146 => (if t146 = 0 then ((bitloftref14_Check.f a1_0).bind fun t147 => (if t147 = 0 then (bitloftlaw14_NibbleNode.j0 k t145 (!t145) a0_0 a1_0) else (bitloftlaw14_NibbleNode.j0 k t145 true a0_0 a1_0))) else (bitloftlaw14_NibbleNode.j0 k t145 true a0_0 a1_0)))
theorem bitloftlaw14_NibbleNode.mono_l : ∀ k, (∀ y0 y1 y2 y3, LeO (bitloftlaw14_NibbleNode.j0 k y0 y1 y2 y3) (bitloftlaw14_NibbleNode.j0 (k + 1) y0 y1 y2 y3)) ∧ (∀ y0 y1 y2 y3 y4 y5 y6 y7, LeO (bitloftlaw14_NibbleNode.j1 k y0 y1 y2 y3 y4 y5 y6 y7) (bitloftlaw14_NibbleNode.j1 (k + 1) y0 y1 y2 y3 y4 y5 y6 y7)) ∧ (∀ y0 y1 y2 y3 y4 y5, LeO (bitloftlaw14_NibbleNode.j2 k y0 y1 y2 y3 y4 y5) (bitloftlaw14_NibbleNode.j2 (k + 1) y0 y1 y2 y3 y4 y5))
  | 0 => ⟨fun _ _ _ _ r h => by simp [bitloftlaw14_NibbleNode.j0] at h, fun _ _ _ _ _ _ _ _ r h => by simp [bitloftlaw14_NibbleNode.j1] at h, fun _ _ _ _ _ _ r h => by simp [bitloftlaw14_NibbleNode.j2] at h⟩
  | k + 1 => by
    obtain ⟨ih0, ih1, ih2⟩ := bitloftlaw14_NibbleNode.mono_l k
    refine ⟨?_, ?_, ?_⟩
    · intro y0 y1 y2 y3
      unfold bitloftlaw14_NibbleNode.j0
      repeat' first
      | (with_reducible exact ih0 _ _ _ _)
      | (with_reducible exact ih1 _ _ _ _ _ _ _ _)
      | (with_reducible exact ih2 _ _ _ _ _ _)
      | (with_reducible exact bitloftlaw14_alive.mono _)
      | (with_reducible exact bitloftref14_Part.mono _ _)
      | (with_reducible exact bitloftref14_Same.mono _ _ _)
      | (with_reducible exact nibble_Bits.mono _ _)
      | (with_reducible exact nibble_Node.mono _ _)
      | (with_reducible exact LeO.refl _)
      | (with_reducible exact LeO.none _)
      | (with_reducible refine LeO.ite ?_ ?_)
      | (with_reducible refine LeO.bind ?_ (fun _ => ?_))
      | exact ih0 _ _ _ _
      | exact ih1 _ _ _ _ _ _ _ _
      | exact ih2 _ _ _ _ _ _
      | exact bitloftlaw14_alive.mono _
      | exact bitloftref14_Part.mono _ _
      | exact bitloftref14_Same.mono _ _ _
      | exact nibble_Bits.mono _ _
      | exact nibble_Node.mono _ _
      | exact LeO.none _
      | refine LeO.ite ?_ ?_
      | refine LeO.bind ?_ (fun _ => ?_)
    · intro y0 y1 y2 y3 y4 y5 y6 y7
      unfold bitloftlaw14_NibbleNode.j1
      repeat' first
      | (with_reducible exact ih0 _ _ _ _)
      | (with_reducible exact ih1 _ _ _ _ _ _ _ _)
      | (with_reducible exact ih2 _ _ _ _ _ _)
      | (with_reducible exact bitloftlaw14_alive.mono _)
      | (with_reducible exact bitloftref14_Part.mono _ _)
      | (with_reducible exact bitloftref14_Same.mono _ _ _)
      | (with_reducible exact nibble_Bits.mono _ _)
      | (with_reducible exact nibble_Node.mono _ _)
      | (with_reducible exact LeO.refl _)
      | (with_reducible exact LeO.none _)
      | (with_reducible refine LeO.ite ?_ ?_)
      | (with_reducible refine LeO.bind ?_ (fun _ => ?_))
      | exact ih0 _ _ _ _
      | exact ih1 _ _ _ _ _ _ _ _
      | exact ih2 _ _ _ _ _ _
      | exact bitloftlaw14_alive.mono _
      | exact bitloftref14_Part.mono _ _
      | exact bitloftref14_Same.mono _ _ _
      | exact nibble_Bits.mono _ _
      | exact nibble_Node.mono _ _
      | exact LeO.none _
      | refine LeO.ite ?_ ?_
      | refine LeO.bind ?_ (fun _ => ?_)
    · intro y0 y1 y2 y3 y4 y5
      unfold bitloftlaw14_NibbleNode.j2
      repeat' first
      | (with_reducible exact ih0 _ _ _ _)
      | (with_reducible exact ih1 _ _ _ _ _ _ _ _)
      | (with_reducible exact ih2 _ _ _ _ _ _)
      | (with_reducible exact bitloftlaw14_alive.mono _)
      | (with_reducible exact bitloftref14_Part.mono _ _)
      | (with_reducible exact bitloftref14_Same.mono _ _ _)
      | (with_reducible exact nibble_Bits.mono _ _)
      | (with_reducible exact nibble_Node.mono _ _)
      | (with_reducible exact LeO.refl _)
      | (with_reducible exact LeO.none _)
      | (with_reducible refine LeO.ite ?_ ?_)
      | (with_reducible refine LeO.bind ?_ (fun _ => ?_))
      | exact ih0 _ _ _ _
      | exact ih1 _ _ _ _ _ _ _ _
      | exact ih2 _ _ _ _ _ _
      | exact bitloftlaw14_alive.mono _
      | exact bitloftref14_Part.mono _ _
      | exact bitloftref14_Same.mono _ _ _
      | exact nibble_Bits.mono _ _
      | exact nibble_Node.mono _ _
      | exact LeO.none _
      | refine LeO.ite ?_ ?_
      | refine LeO.bind ?_ (fun _ => ?_)
theorem bitloftlaw14_NibbleNode.mono : ∀ a0 a1 k, LeO (bitloftlaw14_NibbleNode.f k a0 a1) (bitloftlaw14_NibbleNode.f (k + 1) a0 a1) := by
  intro a0 a1 k
  obtain ⟨ih0, ih1, ih2⟩ := bitloftlaw14_NibbleNode.mono_l k
  unfold bitloftlaw14_NibbleNode.f
  repeat' first
      | (with_reducible exact ih0 _ _ _ _)
      | (with_reducible exact ih1 _ _ _ _ _ _ _ _)
      | (with_reducible exact ih2 _ _ _ _ _ _)
      | (with_reducible exact bitloftlaw14_alive.mono _)
      | (with_reducible exact bitloftref14_Part.mono _ _)
      | (with_reducible exact bitloftref14_Same.mono _ _ _)
      | (with_reducible exact nibble_Bits.mono _ _)
      | (with_reducible exact nibble_Node.mono _ _)
      | (with_reducible exact LeO.refl _)
      | (with_reducible exact LeO.none _)
      | (with_reducible refine LeO.ite ?_ ?_)
      | (with_reducible refine LeO.bind ?_ (fun _ => ?_))
      | exact ih0 _ _ _ _
      | exact ih1 _ _ _ _ _ _ _ _
      | exact ih2 _ _ _ _ _ _
      | exact bitloftlaw14_alive.mono _
      | exact bitloftref14_Part.mono _ _
      | exact bitloftref14_Same.mono _ _ _
      | exact nibble_Bits.mono _ _
      | exact nibble_Node.mono _ _
      | exact LeO.none _
      | refine LeO.ite ?_ ?_
      | refine LeO.bind ?_ (fun _ => ?_)
set_option maxHeartbeats 8000000 in
set_option maxRecDepth 100000 in
theorem bitloftlaw14_NibbleNode.calls (k : Nat) (a0_0 : Int) (a1_0 : Int) (r : Bool) (w : World) (h : bitloftlaw14_NibbleNode.f k a0_0 a1_0 = some r) :
    Calls Try.prog 3 #[.agg #[.int .i64 a0_0], .agg #[.int .i64 a1_0]] w fun e w' => e = .returned (.bool r) ∧ Below w.heap.size w w' := by
  have hu23 := Try.underlying23
  have HB := Aside0.mk (Below.refl w.heap.size w)
  have H : ((bitloftlaw14_alive.f k).bind fun t145 => ((bitloftref14_Check.f a0_0).bind fun t146 => (if t146 = 0 then ((bitloftref14_Check.f a1_0).bind fun t147 => (if t147 = 0 then (bitloftlaw14_NibbleNode.j0 k t145 (!t145) a0_0 a1_0) else (bitloftlaw14_NibbleNode.j0 k t145 true a0_0 a1_0))) else (bitloftlaw14_NibbleNode.j0 k t145 true a0_0 a1_0)))) = some r := h
  clear h
  replace H := Option.bind_eq_some_iff.mp H
  obtain ⟨t145, A30, H⟩ := H
  replace H : ((bitloftref14_Check.f a0_0).bind fun t146 => (if t146 = 0 then ((bitloftref14_Check.f a1_0).bind fun t147 => (if t147 = 0 then (bitloftlaw14_NibbleNode.j0 k t145 (!t145) a0_0 a1_0) else (bitloftlaw14_NibbleNode.j0 k t145 true a0_0 a1_0))) else (bitloftlaw14_NibbleNode.j0 k t145 true a0_0 a1_0))) = some r := H
  have A3 := Aside0.mk A30
  clear A30
  have HC4 := Aside0.mk H
  clear H
  go_enter Try.func3, Try.ntmps3
  go_upto_region 2 with (first | ((with_reducible refine gate_dst (N := 2) rfl ?_); (try (refine gate_guard (by rfl) ?_; dsimp only)); refine box_event ?hg (N := 2) ?hd (cs := #[.int .i64 a0_0]) (t := 23) ?hr ?_; (case hd => rfl); (case hg => rfl); (case hr => first | (go_simp; done) | (go_simp; rfl)); intro gb143 hg w5 hbox hb; have n0_ := Aside0.mk (below_step (by repeat (first | (with_reducible first | exact HB.out | apply below_alloc | apply pw_below_drewN | apply below_drew1) | exact HB.out)) hb); have n1_ := Aside0.mk (hbox); have n2_ := Aside0.mk ((by rw [hg]; exact (below_size (by repeat (first | (with_reducible first | exact HB.out | apply below_alloc | apply pw_below_drewN | apply below_drew1) | exact HB.out))) : w.heap.size ≤ gb143)); have n3_ := Aside0.mk ((by rw [hg]; exact (below_size (by repeat (first | (with_reducible first | exact HB.out | apply below_alloc | apply pw_below_drewN | apply below_drew1) | exact HB.out))) : w.heap.size ≤ gb143)); clear HB; have HB := n0_; have BK143 := n1_; have GW143 := n2_; have GE143 := n3_; clear n0_ n1_ n2_ n3_; clear hb hbox hg) | ((with_reducible refine gate_dst (N := 3) rfl ?_); (try (refine gate_guard (by rfl) ?_; dsimp only)); refine box_event ?hg (N := 3) ?hd (cs := #[.int .i64 a1_0]) (t := 23) ?hr ?_; (case hd => rfl); (case hg => rfl); (case hr => first | (go_simp; done) | (go_simp; rfl)); intro gb144 hg w6 hbox hb; have n0_ := Aside0.mk (blk_below (g := gb143) (o := .cells #[.int .i64 a0_0] 23 (0, 0)) (by (with_reducible repeat (first | refine blk_drewN ?_ _ | refine blk_drew ?_ | refine blk_alloc ?_ _)); exact BK143.out) hb); have n1_ := Aside0.mk (below_step (by repeat (first | (with_reducible first | exact HB.out | apply below_alloc | apply pw_below_drewN | apply below_drew1 | refine below_set ?_ GE143.out) | exact HB.out)) hb); have n2_ := Aside0.mk (hbox); have n3_ := Aside0.mk ((by rw [hg]; exact (below_size (by repeat (first | (with_reducible first | exact HB.out | apply below_alloc | apply pw_below_drewN | apply below_drew1 | refine below_set ?_ GE143.out) | exact HB.out))) : w.heap.size ≤ gb144)); have n4_ := Aside0.mk ((by rw [hg]; exact (below_size (by repeat (first | (with_reducible first | exact HB.out | apply below_alloc | apply pw_below_drewN | apply below_drew1 | refine below_set ?_ GE143.out) | exact HB.out))) : w.heap.size ≤ gb144)); have n5_ := Aside0.mk ((by rw [hg]; exact Nat.ne_of_lt (blk_lt (g := gb143) (o := .cells #[.int .i64 a0_0] 23 (0, 0)) (by (with_reducible repeat (first | refine blk_drewN ?_ _ | refine blk_drew ?_ | refine blk_alloc ?_ _)); exact BK143.out)) : gb143 ≠ gb144)); have n6_ := Aside0.mk ((by rw [hg]; exact Nat.ne_of_gt (blk_lt (g := gb143) (o := .cells #[.int .i64 a0_0] 23 (0, 0)) (by (with_reducible repeat (first | refine blk_drewN ?_ _ | refine blk_drew ?_ | refine blk_alloc ?_ _)); exact BK143.out)) : gb144 ≠ gb143)); clear BK143; clear HB; have BK143 := n0_; have HB := n1_; have BK144 := n2_; have GW144 := n3_; have GE144 := n4_; have NB143_144 := n5_; have NB144_143 := n6_; clear n0_ n1_ n2_ n3_ n4_ n5_ n6_; clear hb hbox hg) | ((with_reducible refine gate_callee (f := 8) rfl ?_); refine goesL_ (some 18) rfl rfl Try.func8 (by kernel_rfl) rfl #[] rfl (by (try simp only [List.map_toArray, List.map_cons, List.map_nil]); first | done | rfl | (simp only [List.length_drop, List.length_take]; rfl)) ?_; (with_reducible refine (bitloftlaw14_alive.calls k  t145 _ A3.out).mono ?_); rintro e w7 ⟨rfl, hb⟩; refine ⟨_, rfl, ?_⟩; have n0_ := Aside0.mk (blk_below (g := gb143) (o := .cells #[.int .i64 a0_0] 23 (0, 0)) (by (with_reducible repeat (first | refine blk_drewN ?_ _ | refine blk_drew ?_ | refine blk_alloc ?_ _)); exact BK143.out) hb); have n1_ := Aside0.mk (blk_below (g := gb144) (o := .cells #[.int .i64 a1_0] 23 (0, 0)) (by (with_reducible repeat (first | refine blk_drewN ?_ _ | refine blk_drew ?_ | refine blk_alloc ?_ _)); exact BK144.out) hb); have n2_ := Aside0.mk (below_step (by repeat (first | (with_reducible first | exact HB.out | apply below_alloc | apply pw_below_drewN | apply below_drew1 | refine below_set ?_ GE143.out | refine below_set ?_ GE144.out) | exact HB.out)) hb); clear BK143; clear BK144; clear HB; have BK143 := n0_; have BK144 := n1_; have HB := n2_; clear n0_ n1_ n2_; (try clear hb); (try clear hb2); (try clear hk); (try clear hi)))
  (try simp only [Act.put, List.setIfInBounds_toArray, List.set_cons_zero, List.set_cons_succ])
  go_cut [30] (fun v30 wc => ∃ (kq : Nat) (x30_3 : Bool), v30 = .bool x30_3 ∧ Aside0 (bitloftlaw14_NibbleNode.j0 kq t145 x30_3 a0_0 a1_0 = some r) ∧ Aside0 (kq ≤ k) ∧ Aside0 (wc.heap[gb143]? = some (.cells #[.int .i64 a0_0] 23 (0, 0))) ∧ Aside0 (wc.heap[gb144]? = some (.cells #[.int .i64 a1_0] 23 (0, 0))) ∧ Aside0 (Below w.heap.size w wc))
  case first =>
    have H := HC4.out
    clear HC4
    replace H := Option.bind_eq_some_iff.mp H
    obtain ⟨t146, A80, H⟩ := H
    replace H : (if t146 = 0 then ((bitloftref14_Check.f a1_0).bind fun t147 => (if t147 = 0 then (bitloftlaw14_NibbleNode.j0 k t145 (!t145) a0_0 a1_0) else (bitloftlaw14_NibbleNode.j0 k t145 true a0_0 a1_0))) else (bitloftlaw14_NibbleNode.j0 k t145 true a0_0 a1_0)) = some r := H
    have A8 := Aside0.mk A80
    clear A80
    by_cases c9 : t146 = 0
    · rw [if_pos c9] at H
      have c9b0 : (t146 == 0) = true := beq_iff_eq.mpr c9
      have c9b1 : (t146 != 0) = false := bne_eq_false_iff_eq.mpr c9
      clear c9
      (first | rw [c9b0] | (simp only [i64_w, i32_w]; rw [c9b0]) | skip)
      replace H := Option.bind_eq_some_iff.mp H
      obtain ⟨t147, A100, H⟩ := H
      replace H : (if t147 = 0 then (bitloftlaw14_NibbleNode.j0 k t145 (!t145) a0_0 a1_0) else (bitloftlaw14_NibbleNode.j0 k t145 true a0_0 a1_0)) = some r := H
      have A10 := Aside0.mk A100
      clear A100
      by_cases c11 : t147 = 0
      · rw [if_pos c11] at H
        have c11b0 : (t147 == 0) = true := beq_iff_eq.mpr c11
        have c11b1 : (t147 != 0) = false := bne_eq_false_iff_eq.mpr c11
        clear c11
        have H' := Aside0.mk H
        clear H
        have hnb12 := NB143_144.out
        have hnc12 := NB144_143.out
        have hcz13_0 : w7.cell? ⟨gb143, 0, none⟩ = some (.int .i64 a0_0) := (blk_cell BK143.out 0).trans rfl
        have hfz13_0 := blk_frozen BK143.out 0
        go_wp2_with (first | ((with_reducible refine gate_callee (f := 9) rfl ?_); refine goesL_ (some 20) rfl rfl Try.func9 (by kernel_rfl) rfl #[.agg #[.int .i64 a0_0]] rfl (by (try simp only [List.map_toArray, List.map_cons, List.map_nil]); first | done | rfl | (simp only [List.length_drop, List.length_take]; rfl)) ?_; (with_reducible refine (bitloftref14_Check.calls a0_0 t146 _ A8.out).mono ?_); rintro e w14 ⟨rfl, hb⟩; refine ⟨_, rfl, ?_⟩; have n0_ := Aside0.mk (blk_below (g := gb143) (o := .cells #[.int .i64 a0_0] 23 (0, 0)) (by (with_reducible repeat (first | refine blk_drewN ?_ _ | refine blk_drew ?_ | refine blk_alloc ?_ _)); exact BK143.out) hb); have n1_ := Aside0.mk (blk_below (g := gb144) (o := .cells #[.int .i64 a1_0] 23 (0, 0)) (by (with_reducible repeat (first | refine blk_drewN ?_ _ | refine blk_drew ?_ | refine blk_alloc ?_ _)); exact BK144.out) hb); have n2_ := Aside0.mk (below_step (by repeat (first | (with_reducible first | exact HB.out | apply below_alloc | apply pw_below_drewN | apply below_drew1 | refine below_set ?_ GE143.out | refine below_set ?_ GE144.out) | exact HB.out)) hb); clear BK143; clear BK144; clear HB; have BK143 := n0_; have BK144 := n1_; have HB := n2_; clear n0_ n1_ n2_; (try clear hb); (try clear hb2); (try clear hk); (try clear hi); have hcz15_0 : w14.cell? ⟨gb144, 0, none⟩ = some (.int .i64 a1_0) := (blk_cell BK144.out 0).trans rfl; have hfz15_0 := blk_frozen BK144.out 0) | (go_at_call 9; (with_reducible refine (bitloftref14_Check.calls a1_0 t147 _ A10.out).mono ?_); rintro e w16 ⟨rfl, hb⟩; have n0_ := Aside0.mk (blk_below (g := gb143) (o := .cells #[.int .i64 a0_0] 23 (0, 0)) (by (with_reducible repeat (first | refine blk_drewN ?_ _ | refine blk_drew ?_ | refine blk_alloc ?_ _)); exact BK143.out) hb); have n1_ := Aside0.mk (blk_below (g := gb144) (o := .cells #[.int .i64 a1_0] 23 (0, 0)) (by (with_reducible repeat (first | refine blk_drewN ?_ _ | refine blk_drew ?_ | refine blk_alloc ?_ _)); exact BK144.out) hb); have n2_ := Aside0.mk (below_step (by repeat (first | (with_reducible first | exact HB.out | apply below_alloc | apply pw_below_drewN | apply below_drew1 | refine below_set ?_ GE143.out | refine below_set ?_ GE144.out) | exact HB.out)) hb); clear BK143; clear BK144; clear HB; have BK143 := n0_; have BK144 := n1_; have HB := n2_; clear n0_ n1_ n2_; (try clear hb); (try clear hb2); (try clear hk); (try clear hi)))
        go_meet
        case rel => exact ⟨_, (!t145), (by first | rfl | (simp; done) | (simp [*]; done)), H', ⟨by first | omega | exact Nat.le_refl _⟩, ⟨by (with_reducible repeat (first | refine blk_drewN ?_ _ | refine blk_drew ?_ | refine blk_alloc ?_ _)); exact BK143.out⟩, ⟨by (with_reducible repeat (first | refine blk_drewN ?_ _ | refine blk_drew ?_ | refine blk_alloc ?_ _)); exact BK144.out⟩, ⟨by repeat (first | (with_reducible first | exact HB.out | apply below_alloc | apply pw_below_drewN | apply below_drew1 | refine below_set ?_ GE143.out | refine below_set ?_ GE144.out) | exact HB.out)⟩⟩
      · rw [if_neg c11] at H
        have c11b0 : (t147 == 0) = false := beq_eq_false_iff_ne.mpr c11
        have c11b1 : (t147 != 0) = true := bne_iff_ne.mpr c11
        have H' := Aside0.mk H
        clear H
        have hnb17 := NB143_144.out
        have hnc17 := NB144_143.out
        have hcz18_0 : w7.cell? ⟨gb143, 0, none⟩ = some (.int .i64 a0_0) := (blk_cell BK143.out 0).trans rfl
        have hfz18_0 := blk_frozen BK143.out 0
        go_wp2_with (first | ((with_reducible refine gate_callee (f := 9) rfl ?_); refine goesL_ (some 20) rfl rfl Try.func9 (by kernel_rfl) rfl #[.agg #[.int .i64 a0_0]] rfl (by (try simp only [List.map_toArray, List.map_cons, List.map_nil]); first | done | rfl | (simp only [List.length_drop, List.length_take]; rfl)) ?_; (with_reducible refine (bitloftref14_Check.calls a0_0 t146 _ A8.out).mono ?_); rintro e w19 ⟨rfl, hb⟩; refine ⟨_, rfl, ?_⟩; have n0_ := Aside0.mk (blk_below (g := gb143) (o := .cells #[.int .i64 a0_0] 23 (0, 0)) (by (with_reducible repeat (first | refine blk_drewN ?_ _ | refine blk_drew ?_ | refine blk_alloc ?_ _)); exact BK143.out) hb); have n1_ := Aside0.mk (blk_below (g := gb144) (o := .cells #[.int .i64 a1_0] 23 (0, 0)) (by (with_reducible repeat (first | refine blk_drewN ?_ _ | refine blk_drew ?_ | refine blk_alloc ?_ _)); exact BK144.out) hb); have n2_ := Aside0.mk (below_step (by repeat (first | (with_reducible first | exact HB.out | apply below_alloc | apply pw_below_drewN | apply below_drew1 | refine below_set ?_ GE143.out | refine below_set ?_ GE144.out) | exact HB.out)) hb); clear BK143; clear BK144; clear HB; have BK143 := n0_; have BK144 := n1_; have HB := n2_; clear n0_ n1_ n2_; (try clear hb); (try clear hb2); (try clear hk); (try clear hi); have hcz20_0 : w19.cell? ⟨gb144, 0, none⟩ = some (.int .i64 a1_0) := (blk_cell BK144.out 0).trans rfl; have hfz20_0 := blk_frozen BK144.out 0) | (go_at_call 9; (with_reducible refine (bitloftref14_Check.calls a1_0 t147 _ A10.out).mono ?_); rintro e w21 ⟨rfl, hb⟩; have n0_ := Aside0.mk (blk_below (g := gb143) (o := .cells #[.int .i64 a0_0] 23 (0, 0)) (by (with_reducible repeat (first | refine blk_drewN ?_ _ | refine blk_drew ?_ | refine blk_alloc ?_ _)); exact BK143.out) hb); have n1_ := Aside0.mk (blk_below (g := gb144) (o := .cells #[.int .i64 a1_0] 23 (0, 0)) (by (with_reducible repeat (first | refine blk_drewN ?_ _ | refine blk_drew ?_ | refine blk_alloc ?_ _)); exact BK144.out) hb); have n2_ := Aside0.mk (below_step (by repeat (first | (with_reducible first | exact HB.out | apply below_alloc | apply pw_below_drewN | apply below_drew1 | refine below_set ?_ GE143.out | refine below_set ?_ GE144.out) | exact HB.out)) hb); clear BK143; clear BK144; clear HB; have BK143 := n0_; have BK144 := n1_; have HB := n2_; clear n0_ n1_ n2_; (try clear hb); (try clear hb2); (try clear hk); (try clear hi)))
        go_meet
        case rel => exact ⟨_, (true), (by first | rfl | (simp; done) | (simp [*]; done)), H', ⟨by first | omega | exact Nat.le_refl _⟩, ⟨by (with_reducible repeat (first | refine blk_drewN ?_ _ | refine blk_drew ?_ | refine blk_alloc ?_ _)); exact BK143.out⟩, ⟨by (with_reducible repeat (first | refine blk_drewN ?_ _ | refine blk_drew ?_ | refine blk_alloc ?_ _)); exact BK144.out⟩, ⟨by repeat (first | (with_reducible first | exact HB.out | apply below_alloc | apply pw_below_drewN | apply below_drew1 | refine below_set ?_ GE143.out | refine below_set ?_ GE144.out) | exact HB.out)⟩⟩
    · rw [if_neg c9] at H
      have c9b0 : (t146 == 0) = false := beq_eq_false_iff_ne.mpr c9
      have c9b1 : (t146 != 0) = true := bne_iff_ne.mpr c9
      (first | rw [c9b0] | (simp only [i64_w, i32_w]; rw [c9b0]) | skip)
      have H' := Aside0.mk H
      clear H
      have hnb22 := NB143_144.out
      have hnc22 := NB144_143.out
      have hcz23_0 : w7.cell? ⟨gb143, 0, none⟩ = some (.int .i64 a0_0) := (blk_cell BK143.out 0).trans rfl
      have hfz23_0 := blk_frozen BK143.out 0
      go_wp2_with (first | ((with_reducible refine gate_callee (f := 9) rfl ?_); refine goesL_ (some 20) rfl rfl Try.func9 (by kernel_rfl) rfl #[.agg #[.int .i64 a0_0]] rfl (by (try simp only [List.map_toArray, List.map_cons, List.map_nil]); first | done | rfl | (simp only [List.length_drop, List.length_take]; rfl)) ?_; (with_reducible refine (bitloftref14_Check.calls a0_0 t146 _ A8.out).mono ?_); rintro e w24 ⟨rfl, hb⟩; refine ⟨_, rfl, ?_⟩; have n0_ := Aside0.mk (blk_below (g := gb143) (o := .cells #[.int .i64 a0_0] 23 (0, 0)) (by (with_reducible repeat (first | refine blk_drewN ?_ _ | refine blk_drew ?_ | refine blk_alloc ?_ _)); exact BK143.out) hb); have n1_ := Aside0.mk (blk_below (g := gb144) (o := .cells #[.int .i64 a1_0] 23 (0, 0)) (by (with_reducible repeat (first | refine blk_drewN ?_ _ | refine blk_drew ?_ | refine blk_alloc ?_ _)); exact BK144.out) hb); have n2_ := Aside0.mk (below_step (by repeat (first | (with_reducible first | exact HB.out | apply below_alloc | apply pw_below_drewN | apply below_drew1 | refine below_set ?_ GE143.out | refine below_set ?_ GE144.out) | exact HB.out)) hb); clear BK143; clear BK144; clear HB; have BK143 := n0_; have BK144 := n1_; have HB := n2_; clear n0_ n1_ n2_; (try clear hb); (try clear hb2); (try clear hk); (try clear hi)))
      go_meet
      case rel => exact ⟨_, (true), (by first | rfl | (simp; done) | (simp [*]; done)), H', ⟨by first | omega | exact Nat.le_refl _⟩, ⟨by (with_reducible repeat (first | refine blk_drewN ?_ _ | refine blk_drew ?_ | refine blk_alloc ?_ _)); exact BK143.out⟩, ⟨by (with_reducible repeat (first | refine blk_drewN ?_ _ | refine blk_drew ?_ | refine blk_alloc ?_ _)); exact BK144.out⟩, ⟨by repeat (first | (with_reducible first | exact HB.out | apply below_alloc | apply pw_below_drewN | apply below_drew1 | refine below_set ?_ GE143.out | refine below_set ?_ GE144.out) | exact HB.out)⟩⟩
  case rest =>
    clear HC4
    try clear c1
    try clear c2
    try clear p2
    try clear c3
    try clear c8
    try clear c9
    try clear c9b0
    try clear c9b1
    try clear c11
    try clear c11b0
    try clear c11b1
    try clear c12
    try clear c17
    try clear c22
    try clear hcz13_0
    try clear hcz15_0
    try clear hcz18_0
    try clear hcz20_0
    try clear hcz23_0
    try clear hfz13_0
    try clear hfz15_0
    try clear hfz18_0
    try clear hfz20_0
    try clear hfz23_0
    obtain ⟨kq, x30_3, rfl, HA, HJ3, BK143, BK144, HB⟩ := hcut
    cases kq with
    | zero => exact absurd HA.out (by simp [bitloftlaw14_NibbleNode.j0])
    | succ kj3 =>
      have H := HA.out
      clear HA
      simp only [bitloftlaw14_NibbleNode.j0] at H
      by_cases c25 : x30_3 = true
      · subst c25
        have H1 : (some t145) = some r := by rw [if_pos rfl] at H; exact H
        clear H
        have H := H1
        clear H1
        obtain rfl := Option.some.inj H
        go_wp2
        go_ret
        exact ⟨by first | rfl | (simp [errW_none, errW_some] <;> rfl) | (simp [*, errW_none, errW_some] <;> rfl), by repeat (first | (with_reducible first | exact HB.out | apply below_alloc | apply pw_below_drewN | apply below_drew1 | refine below_set ?_ GE143.out | refine below_set ?_ GE144.out) | exact HB.out)⟩
      · replace c25 := Bool.eq_false_iff.mpr c25
        subst c25
        have H1 : ((nibble_Node.f kj3 a0_0).bind fun bt148 => ((nibble_Node.f kj3 a1_0).bind fun bt150 => ((nibble_Second.f a0_0).bind fun bt152 => ((nibble_Second.f a1_0).bind fun bt154 => ((nibble_Bits.f kj3 a0_0).bind fun bt156 => ((nibble_Bits.f kj3 a1_0).bind fun bt160 => (if bt148.2 = 0 then (if bt150.2 = 0 then (if bt152.2 = 0 then (if bt154.2 = 0 then (if bt156.2 = 0 then (if bt160.2 = 0 then (if bt148.1 < 1 then (bitloftlaw14_NibbleNode.j1 kj3 t145 bt148.1 bt150.1 bt152.1 bt154.1 bt156.1 bt160.1 true) else (if bt148.1 > 15 then (bitloftlaw14_NibbleNode.j1 kj3 t145 bt148.1 bt150.1 bt152.1 bt154.1 bt156.1 bt160.1 true) else (if bt150.1 < 1 then (bitloftlaw14_NibbleNode.j1 kj3 t145 bt148.1 bt150.1 bt152.1 bt154.1 bt156.1 bt160.1 true) else (if bt150.1 > 15 then (bitloftlaw14_NibbleNode.j1 kj3 t145 bt148.1 bt150.1 bt152.1 bt154.1 bt156.1 bt160.1 true) else (if (bt152.1 != (decide ((bt156.1.length : Int) ≥ 4))) = true then (bitloftlaw14_NibbleNode.j1 kj3 t145 bt148.1 bt150.1 bt152.1 bt154.1 bt156.1 bt160.1 true) else (bitloftlaw14_NibbleNode.j1 kj3 t145 bt148.1 bt150.1 bt152.1 bt154.1 bt156.1 bt160.1 (bt154.1 != (decide ((bt160.1.length : Int) ≥ 4))))))))) else (bitloftlaw14_NibbleNode.j1 kj3 t145 bt148.1 bt150.1 bt152.1 bt154.1 bt156.1 bt160.1 true)) else (bitloftlaw14_NibbleNode.j1 kj3 t145 bt148.1 bt150.1 bt152.1 bt154.1 bt156.1 bt160.1 true)) else (bitloftlaw14_NibbleNode.j1 kj3 t145 bt148.1 bt150.1 bt152.1 bt154.1 bt156.1 bt160.1 true)) else (bitloftlaw14_NibbleNode.j1 kj3 t145 bt148.1 bt150.1 bt152.1 bt154.1 bt156.1 bt160.1 true)) else (bitloftlaw14_NibbleNode.j1 kj3 t145 bt148.1 bt150.1 bt152.1 bt154.1 bt156.1 bt160.1 true)) else (bitloftlaw14_NibbleNode.j1 kj3 t145 bt148.1 bt150.1 bt152.1 bt154.1 bt156.1 bt160.1 true)))))))) = some r := by rw [if_neg (show ¬ (false = true) by decide)] at H; exact H
        clear H
        have H := H1
        clear H1
        replace H := Option.bind_eq_some_iff.mp H
        obtain ⟨⟨t148, t149⟩, A260, H⟩ := H
        replace H : ((nibble_Node.f kj3 a1_0).bind fun bt150 => ((nibble_Second.f a0_0).bind fun bt152 => ((nibble_Second.f a1_0).bind fun bt154 => ((nibble_Bits.f kj3 a0_0).bind fun bt156 => ((nibble_Bits.f kj3 a1_0).bind fun bt160 => (if t149 = 0 then (if bt150.2 = 0 then (if bt152.2 = 0 then (if bt154.2 = 0 then (if bt156.2 = 0 then (if bt160.2 = 0 then (if t148 < 1 then (bitloftlaw14_NibbleNode.j1 kj3 t145 t148 bt150.1 bt152.1 bt154.1 bt156.1 bt160.1 true) else (if t148 > 15 then (bitloftlaw14_NibbleNode.j1 kj3 t145 t148 bt150.1 bt152.1 bt154.1 bt156.1 bt160.1 true) else (if bt150.1 < 1 then (bitloftlaw14_NibbleNode.j1 kj3 t145 t148 bt150.1 bt152.1 bt154.1 bt156.1 bt160.1 true) else (if bt150.1 > 15 then (bitloftlaw14_NibbleNode.j1 kj3 t145 t148 bt150.1 bt152.1 bt154.1 bt156.1 bt160.1 true) else (if (bt152.1 != (decide ((bt156.1.length : Int) ≥ 4))) = true then (bitloftlaw14_NibbleNode.j1 kj3 t145 t148 bt150.1 bt152.1 bt154.1 bt156.1 bt160.1 true) else (bitloftlaw14_NibbleNode.j1 kj3 t145 t148 bt150.1 bt152.1 bt154.1 bt156.1 bt160.1 (bt154.1 != (decide ((bt160.1.length : Int) ≥ 4))))))))) else (bitloftlaw14_NibbleNode.j1 kj3 t145 t148 bt150.1 bt152.1 bt154.1 bt156.1 bt160.1 true)) else (bitloftlaw14_NibbleNode.j1 kj3 t145 t148 bt150.1 bt152.1 bt154.1 bt156.1 bt160.1 true)) else (bitloftlaw14_NibbleNode.j1 kj3 t145 t148 bt150.1 bt152.1 bt154.1 bt156.1 bt160.1 true)) else (bitloftlaw14_NibbleNode.j1 kj3 t145 t148 bt150.1 bt152.1 bt154.1 bt156.1 bt160.1 true)) else (bitloftlaw14_NibbleNode.j1 kj3 t145 t148 bt150.1 bt152.1 bt154.1 bt156.1 bt160.1 true)) else (bitloftlaw14_NibbleNode.j1 kj3 t145 t148 bt150.1 bt152.1 bt154.1 bt156.1 bt160.1 true))))))) = some r := H
        have A26 := Aside0.mk A260
        clear A260
        replace H := Option.bind_eq_some_iff.mp H
        obtain ⟨⟨t150, t151⟩, A270, H⟩ := H
        replace H : ((nibble_Second.f a0_0).bind fun bt152 => ((nibble_Second.f a1_0).bind fun bt154 => ((nibble_Bits.f kj3 a0_0).bind fun bt156 => ((nibble_Bits.f kj3 a1_0).bind fun bt160 => (if t149 = 0 then (if t151 = 0 then (if bt152.2 = 0 then (if bt154.2 = 0 then (if bt156.2 = 0 then (if bt160.2 = 0 then (if t148 < 1 then (bitloftlaw14_NibbleNode.j1 kj3 t145 t148 t150 bt152.1 bt154.1 bt156.1 bt160.1 true) else (if t148 > 15 then (bitloftlaw14_NibbleNode.j1 kj3 t145 t148 t150 bt152.1 bt154.1 bt156.1 bt160.1 true) else (if t150 < 1 then (bitloftlaw14_NibbleNode.j1 kj3 t145 t148 t150 bt152.1 bt154.1 bt156.1 bt160.1 true) else (if t150 > 15 then (bitloftlaw14_NibbleNode.j1 kj3 t145 t148 t150 bt152.1 bt154.1 bt156.1 bt160.1 true) else (if (bt152.1 != (decide ((bt156.1.length : Int) ≥ 4))) = true then (bitloftlaw14_NibbleNode.j1 kj3 t145 t148 t150 bt152.1 bt154.1 bt156.1 bt160.1 true) else (bitloftlaw14_NibbleNode.j1 kj3 t145 t148 t150 bt152.1 bt154.1 bt156.1 bt160.1 (bt154.1 != (decide ((bt160.1.length : Int) ≥ 4))))))))) else (bitloftlaw14_NibbleNode.j1 kj3 t145 t148 t150 bt152.1 bt154.1 bt156.1 bt160.1 true)) else (bitloftlaw14_NibbleNode.j1 kj3 t145 t148 t150 bt152.1 bt154.1 bt156.1 bt160.1 true)) else (bitloftlaw14_NibbleNode.j1 kj3 t145 t148 t150 bt152.1 bt154.1 bt156.1 bt160.1 true)) else (bitloftlaw14_NibbleNode.j1 kj3 t145 t148 t150 bt152.1 bt154.1 bt156.1 bt160.1 true)) else (bitloftlaw14_NibbleNode.j1 kj3 t145 t148 t150 bt152.1 bt154.1 bt156.1 bt160.1 true)) else (bitloftlaw14_NibbleNode.j1 kj3 t145 t148 t150 bt152.1 bt154.1 bt156.1 bt160.1 true)))))) = some r := H
        have A27 := Aside0.mk A270
        clear A270
        replace H := Option.bind_eq_some_iff.mp H
        obtain ⟨⟨t152, t153⟩, A280, H⟩ := H
        replace H : ((nibble_Second.f a1_0).bind fun bt154 => ((nibble_Bits.f kj3 a0_0).bind fun bt156 => ((nibble_Bits.f kj3 a1_0).bind fun bt160 => (if t149 = 0 then (if t151 = 0 then (if t153 = 0 then (if bt154.2 = 0 then (if bt156.2 = 0 then (if bt160.2 = 0 then (if t148 < 1 then (bitloftlaw14_NibbleNode.j1 kj3 t145 t148 t150 t152 bt154.1 bt156.1 bt160.1 true) else (if t148 > 15 then (bitloftlaw14_NibbleNode.j1 kj3 t145 t148 t150 t152 bt154.1 bt156.1 bt160.1 true) else (if t150 < 1 then (bitloftlaw14_NibbleNode.j1 kj3 t145 t148 t150 t152 bt154.1 bt156.1 bt160.1 true) else (if t150 > 15 then (bitloftlaw14_NibbleNode.j1 kj3 t145 t148 t150 t152 bt154.1 bt156.1 bt160.1 true) else (if (t152 != (decide ((bt156.1.length : Int) ≥ 4))) = true then (bitloftlaw14_NibbleNode.j1 kj3 t145 t148 t150 t152 bt154.1 bt156.1 bt160.1 true) else (bitloftlaw14_NibbleNode.j1 kj3 t145 t148 t150 t152 bt154.1 bt156.1 bt160.1 (bt154.1 != (decide ((bt160.1.length : Int) ≥ 4))))))))) else (bitloftlaw14_NibbleNode.j1 kj3 t145 t148 t150 t152 bt154.1 bt156.1 bt160.1 true)) else (bitloftlaw14_NibbleNode.j1 kj3 t145 t148 t150 t152 bt154.1 bt156.1 bt160.1 true)) else (bitloftlaw14_NibbleNode.j1 kj3 t145 t148 t150 t152 bt154.1 bt156.1 bt160.1 true)) else (bitloftlaw14_NibbleNode.j1 kj3 t145 t148 t150 t152 bt154.1 bt156.1 bt160.1 true)) else (bitloftlaw14_NibbleNode.j1 kj3 t145 t148 t150 t152 bt154.1 bt156.1 bt160.1 true)) else (bitloftlaw14_NibbleNode.j1 kj3 t145 t148 t150 t152 bt154.1 bt156.1 bt160.1 true))))) = some r := H
        have A28 := Aside0.mk A280
        clear A280
        replace H := Option.bind_eq_some_iff.mp H
        obtain ⟨⟨t154, t155⟩, A290, H⟩ := H
        replace H : ((nibble_Bits.f kj3 a0_0).bind fun bt156 => ((nibble_Bits.f kj3 a1_0).bind fun bt160 => (if t149 = 0 then (if t151 = 0 then (if t153 = 0 then (if t155 = 0 then (if bt156.2 = 0 then (if bt160.2 = 0 then (if t148 < 1 then (bitloftlaw14_NibbleNode.j1 kj3 t145 t148 t150 t152 t154 bt156.1 bt160.1 true) else (if t148 > 15 then (bitloftlaw14_NibbleNode.j1 kj3 t145 t148 t150 t152 t154 bt156.1 bt160.1 true) else (if t150 < 1 then (bitloftlaw14_NibbleNode.j1 kj3 t145 t148 t150 t152 t154 bt156.1 bt160.1 true) else (if t150 > 15 then (bitloftlaw14_NibbleNode.j1 kj3 t145 t148 t150 t152 t154 bt156.1 bt160.1 true) else (if (t152 != (decide ((bt156.1.length : Int) ≥ 4))) = true then (bitloftlaw14_NibbleNode.j1 kj3 t145 t148 t150 t152 t154 bt156.1 bt160.1 true) else (bitloftlaw14_NibbleNode.j1 kj3 t145 t148 t150 t152 t154 bt156.1 bt160.1 (t154 != (decide ((bt160.1.length : Int) ≥ 4))))))))) else (bitloftlaw14_NibbleNode.j1 kj3 t145 t148 t150 t152 t154 bt156.1 bt160.1 true)) else (bitloftlaw14_NibbleNode.j1 kj3 t145 t148 t150 t152 t154 bt156.1 bt160.1 true)) else (bitloftlaw14_NibbleNode.j1 kj3 t145 t148 t150 t152 t154 bt156.1 bt160.1 true)) else (bitloftlaw14_NibbleNode.j1 kj3 t145 t148 t150 t152 t154 bt156.1 bt160.1 true)) else (bitloftlaw14_NibbleNode.j1 kj3 t145 t148 t150 t152 t154 bt156.1 bt160.1 true)) else (bitloftlaw14_NibbleNode.j1 kj3 t145 t148 t150 t152 t154 bt156.1 bt160.1 true)))) = some r := H
        have A29 := Aside0.mk A290
        clear A290
        replace H := Option.bind_eq_some_iff.mp H
        obtain ⟨⟨t156, t159⟩, A300, H⟩ := H
        replace H : ((nibble_Bits.f kj3 a1_0).bind fun bt160 => (if t149 = 0 then (if t151 = 0 then (if t153 = 0 then (if t155 = 0 then (if t159 = 0 then (if bt160.2 = 0 then (if t148 < 1 then (bitloftlaw14_NibbleNode.j1 kj3 t145 t148 t150 t152 t154 t156 bt160.1 true) else (if t148 > 15 then (bitloftlaw14_NibbleNode.j1 kj3 t145 t148 t150 t152 t154 t156 bt160.1 true) else (if t150 < 1 then (bitloftlaw14_NibbleNode.j1 kj3 t145 t148 t150 t152 t154 t156 bt160.1 true) else (if t150 > 15 then (bitloftlaw14_NibbleNode.j1 kj3 t145 t148 t150 t152 t154 t156 bt160.1 true) else (if (t152 != (decide ((t156.length : Int) ≥ 4))) = true then (bitloftlaw14_NibbleNode.j1 kj3 t145 t148 t150 t152 t154 t156 bt160.1 true) else (bitloftlaw14_NibbleNode.j1 kj3 t145 t148 t150 t152 t154 t156 bt160.1 (t154 != (decide ((bt160.1.length : Int) ≥ 4))))))))) else (bitloftlaw14_NibbleNode.j1 kj3 t145 t148 t150 t152 t154 t156 bt160.1 true)) else (bitloftlaw14_NibbleNode.j1 kj3 t145 t148 t150 t152 t154 t156 bt160.1 true)) else (bitloftlaw14_NibbleNode.j1 kj3 t145 t148 t150 t152 t154 t156 bt160.1 true)) else (bitloftlaw14_NibbleNode.j1 kj3 t145 t148 t150 t152 t154 t156 bt160.1 true)) else (bitloftlaw14_NibbleNode.j1 kj3 t145 t148 t150 t152 t154 t156 bt160.1 true)) else (bitloftlaw14_NibbleNode.j1 kj3 t145 t148 t150 t152 t154 t156 bt160.1 true))) = some r := H
        have A30 := Aside0.mk A300
        clear A300
        replace H := Option.bind_eq_some_iff.mp H
        obtain ⟨⟨t160, t163⟩, A310, H⟩ := H
        replace H : (if t149 = 0 then (if t151 = 0 then (if t153 = 0 then (if t155 = 0 then (if t159 = 0 then (if t163 = 0 then (if t148 < 1 then (bitloftlaw14_NibbleNode.j1 kj3 t145 t148 t150 t152 t154 t156 t160 true) else (if t148 > 15 then (bitloftlaw14_NibbleNode.j1 kj3 t145 t148 t150 t152 t154 t156 t160 true) else (if t150 < 1 then (bitloftlaw14_NibbleNode.j1 kj3 t145 t148 t150 t152 t154 t156 t160 true) else (if t150 > 15 then (bitloftlaw14_NibbleNode.j1 kj3 t145 t148 t150 t152 t154 t156 t160 true) else (if (t152 != (decide ((t156.length : Int) ≥ 4))) = true then (bitloftlaw14_NibbleNode.j1 kj3 t145 t148 t150 t152 t154 t156 t160 true) else (bitloftlaw14_NibbleNode.j1 kj3 t145 t148 t150 t152 t154 t156 t160 (t154 != (decide ((t160.length : Int) ≥ 4))))))))) else (bitloftlaw14_NibbleNode.j1 kj3 t145 t148 t150 t152 t154 t156 t160 true)) else (bitloftlaw14_NibbleNode.j1 kj3 t145 t148 t150 t152 t154 t156 t160 true)) else (bitloftlaw14_NibbleNode.j1 kj3 t145 t148 t150 t152 t154 t156 t160 true)) else (bitloftlaw14_NibbleNode.j1 kj3 t145 t148 t150 t152 t154 t156 t160 true)) else (bitloftlaw14_NibbleNode.j1 kj3 t145 t148 t150 t152 t154 t156 t160 true)) else (bitloftlaw14_NibbleNode.j1 kj3 t145 t148 t150 t152 t154 t156 t160 true)) = some r := H
        have A31 := Aside0.mk A310
        clear A310
        have HC32 := Aside0.mk H
        clear H
        have hnb33 := NB143_144.out
        have hnc33 := NB144_143.out
        have hcz34_0 : wc.cell? ⟨gb143, 0, none⟩ = some (.int .i64 a0_0) := (blk_cell BK143.out 0).trans rfl
        have hfz34_0 := blk_frozen BK143.out 0
        go_upto_region 10 with (first | ((with_reducible refine gate_callee (f := 10) rfl ?_); refine goesL_ (some 34) rfl rfl Try.func10 (by kernel_rfl) rfl #[.agg #[.int .i64 a0_0]] rfl (by (try simp only [List.map_toArray, List.map_cons, List.map_nil]); first | done | rfl | (simp only [List.length_drop, List.length_take]; rfl)) ?_; (with_reducible refine (nibble_Node.calls kj3 a0_0 t148 t149 _ A26.out).mono ?_); rintro e w35 ⟨rfl, hb⟩; refine ⟨_, rfl, ?_⟩; have n0_ := Aside0.mk (blk_below (g := gb143) (o := .cells #[.int .i64 a0_0] 23 (0, 0)) (by (with_reducible repeat (first | refine blk_drewN ?_ _ | refine blk_drew ?_ | refine blk_alloc ?_ _)); exact BK143.out) hb); have n1_ := Aside0.mk (blk_below (g := gb144) (o := .cells #[.int .i64 a1_0] 23 (0, 0)) (by (with_reducible repeat (first | refine blk_drewN ?_ _ | refine blk_drew ?_ | refine blk_alloc ?_ _)); exact BK144.out) hb); have n2_ := Aside0.mk (below_step (by repeat (first | (with_reducible first | exact HB.out | apply below_alloc | apply pw_below_drewN | apply below_drew1 | refine below_set ?_ GE143.out | refine below_set ?_ GE144.out) | exact HB.out)) hb); clear BK143; clear BK144; clear HB; have BK143 := n0_; have BK144 := n1_; have HB := n2_; clear n0_ n1_ n2_; (try clear hb); (try clear hb2); (try clear hk); (try clear hi); have hcz36_0 : w35.cell? ⟨gb144, 0, none⟩ = some (.int .i64 a1_0) := (blk_cell BK144.out 0).trans rfl; have hfz36_0 := blk_frozen BK144.out 0) | ((with_reducible refine gate_callee (f := 10) rfl ?_); refine goesL_ (some 39) rfl rfl Try.func10 (by kernel_rfl) rfl #[.agg #[.int .i64 a1_0]] rfl (by (try simp only [List.map_toArray, List.map_cons, List.map_nil]); first | done | rfl | (simp only [List.length_drop, List.length_take]; rfl)) ?_; (with_reducible refine (nibble_Node.calls kj3 a1_0 t150 t151 _ A27.out).mono ?_); rintro e w37 ⟨rfl, hb⟩; refine ⟨_, rfl, ?_⟩; have n0_ := Aside0.mk (blk_below (g := gb143) (o := .cells #[.int .i64 a0_0] 23 (0, 0)) (by (with_reducible repeat (first | refine blk_drewN ?_ _ | refine blk_drew ?_ | refine blk_alloc ?_ _)); exact BK143.out) hb); have n1_ := Aside0.mk (blk_below (g := gb144) (o := .cells #[.int .i64 a1_0] 23 (0, 0)) (by (with_reducible repeat (first | refine blk_drewN ?_ _ | refine blk_drew ?_ | refine blk_alloc ?_ _)); exact BK144.out) hb); have n2_ := Aside0.mk (below_step (by repeat (first | (with_reducible first | exact HB.out | apply below_alloc | apply pw_below_drewN | apply below_drew1 | refine below_set ?_ GE143.out | refine below_set ?_ GE144.out) | exact HB.out)) hb); clear BK143; clear BK144; clear HB; have BK143 := n0_; have BK144 := n1_; have HB := n2_; clear n0_ n1_ n2_; (try clear hb); (try clear hb2); (try clear hk); (try clear hi); have hcz38_0 : w37.cell? ⟨gb143, 0, none⟩ = some (.int .i64 a0_0) := (blk_cell BK143.out 0).trans rfl; have hfz38_0 := blk_frozen BK143.out 0) | ((with_reducible refine gate_callee (f := 11) rfl ?_); refine goesL_ (some 44) rfl rfl Try.func11 (by kernel_rfl) rfl #[.agg #[.int .i64 a0_0]] rfl (by (try simp only [List.map_toArray, List.map_cons, List.map_nil]); first | done | rfl | (simp only [List.length_drop, List.length_take]; rfl)) ?_; (with_reducible refine (nibble_Second.calls a0_0 t152 t153 _ A28.out).mono ?_); rintro e w39 ⟨rfl, hb⟩; refine ⟨_, rfl, ?_⟩; have n0_ := Aside0.mk (blk_below (g := gb143) (o := .cells #[.int .i64 a0_0] 23 (0, 0)) (by (with_reducible repeat (first | refine blk_drewN ?_ _ | refine blk_drew ?_ | refine blk_alloc ?_ _)); exact BK143.out) hb); have n1_ := Aside0.mk (blk_below (g := gb144) (o := .cells #[.int .i64 a1_0] 23 (0, 0)) (by (with_reducible repeat (first | refine blk_drewN ?_ _ | refine blk_drew ?_ | refine blk_alloc ?_ _)); exact BK144.out) hb); have n2_ := Aside0.mk (below_step (by repeat (first | (with_reducible first | exact HB.out | apply below_alloc | apply pw_below_drewN | apply below_drew1 | refine below_set ?_ GE143.out | refine below_set ?_ GE144.out) | exact HB.out)) hb); clear BK143; clear BK144; clear HB; have BK143 := n0_; have BK144 := n1_; have HB := n2_; clear n0_ n1_ n2_; (try clear hb); (try clear hb2); (try clear hk); (try clear hi); have hcz40_0 : w39.cell? ⟨gb144, 0, none⟩ = some (.int .i64 a1_0) := (blk_cell BK144.out 0).trans rfl; have hfz40_0 := blk_frozen BK144.out 0) | ((with_reducible refine gate_callee (f := 11) rfl ?_); refine goesL_ (some 49) rfl rfl Try.func11 (by kernel_rfl) rfl #[.agg #[.int .i64 a1_0]] rfl (by (try simp only [List.map_toArray, List.map_cons, List.map_nil]); first | done | rfl | (simp only [List.length_drop, List.length_take]; rfl)) ?_; (with_reducible refine (nibble_Second.calls a1_0 t154 t155 _ A29.out).mono ?_); rintro e w41 ⟨rfl, hb⟩; refine ⟨_, rfl, ?_⟩; have n0_ := Aside0.mk (blk_below (g := gb143) (o := .cells #[.int .i64 a0_0] 23 (0, 0)) (by (with_reducible repeat (first | refine blk_drewN ?_ _ | refine blk_drew ?_ | refine blk_alloc ?_ _)); exact BK143.out) hb); have n1_ := Aside0.mk (blk_below (g := gb144) (o := .cells #[.int .i64 a1_0] 23 (0, 0)) (by (with_reducible repeat (first | refine blk_drewN ?_ _ | refine blk_drew ?_ | refine blk_alloc ?_ _)); exact BK144.out) hb); have n2_ := Aside0.mk (below_step (by repeat (first | (with_reducible first | exact HB.out | apply below_alloc | apply pw_below_drewN | apply below_drew1 | refine below_set ?_ GE143.out | refine below_set ?_ GE144.out) | exact HB.out)) hb); clear BK143; clear BK144; clear HB; have BK143 := n0_; have BK144 := n1_; have HB := n2_; clear n0_ n1_ n2_; (try clear hb); (try clear hb2); (try clear hk); (try clear hi); have hcz42_0 : w41.cell? ⟨gb143, 0, none⟩ = some (.int .i64 a0_0) := (blk_cell BK143.out 0).trans rfl; have hfz42_0 := blk_frozen BK143.out 0) | ((with_reducible refine gate_callee (f := 12) rfl ?_); refine goesL_ (some 54) rfl rfl Try.func12 (by kernel_rfl) rfl #[.agg #[.int .i64 a0_0]] rfl (by (try simp only [List.map_toArray, List.map_cons, List.map_nil]); first | done | rfl | (simp only [List.length_drop, List.length_take]; rfl)) ?_; (with_reducible refine (nibble_Bits.calls kj3 a0_0 t156 t159 _ A30.out).mono ?_); rintro e w43 ⟨v157, rfl, ho0, hb⟩; refine ⟨_, rfl, ?_⟩; have n0_ := Aside0.mk (Kd.R_lower ho0 (below_size (by repeat (first | (with_reducible first | exact HB.out | apply below_alloc | apply pw_below_drewN | apply below_drew1 | refine below_set ?_ GE143.out | refine below_set ?_ GE144.out) | exact HB.out)))); have n1_ := Aside0.mk (blk_below (g := gb143) (o := .cells #[.int .i64 a0_0] 23 (0, 0)) (by (with_reducible repeat (first | refine blk_drewN ?_ _ | refine blk_drew ?_ | refine blk_alloc ?_ _)); exact BK143.out) hb); have n2_ := Aside0.mk (blk_below (g := gb144) (o := .cells #[.int .i64 a1_0] 23 (0, 0)) (by (with_reducible repeat (first | refine blk_drewN ?_ _ | refine blk_drew ?_ | refine blk_alloc ?_ _)); exact BK144.out) hb); have n3_ := Aside0.mk (below_step (by repeat (first | (with_reducible first | exact HB.out | apply below_alloc | apply pw_below_drewN | apply below_drew1 | refine below_set ?_ GE143.out | refine below_set ?_ GE144.out) | exact HB.out)) hb); clear BK143; clear BK144; clear HB; have HO158 := n0_; have BK143 := n1_; have BK144 := n2_; have HB := n3_; clear n0_ n1_ n2_ n3_; (try clear hb); (try clear hb2); (try clear hk); (try clear hi); (try clear ho0); have hcz44_0 : w43.cell? ⟨gb144, 0, none⟩ = some (.int .i64 a1_0) := (blk_cell BK144.out 0).trans rfl; have hfz44_0 := blk_frozen BK144.out 0) | ((with_reducible refine gate_callee (f := 12) rfl ?_); refine goesL_ (some 59) rfl rfl Try.func12 (by kernel_rfl) rfl #[.agg #[.int .i64 a1_0]] rfl (by (try simp only [List.map_toArray, List.map_cons, List.map_nil]); first | done | rfl | (simp only [List.length_drop, List.length_take]; rfl)) ?_; (with_reducible refine (nibble_Bits.calls kj3 a1_0 t160 t163 _ A31.out).mono ?_); rintro e w45 ⟨v161, rfl, ho0, hb⟩; refine ⟨_, rfl, ?_⟩; have n0_ := Aside0.mk (Kd.R_elder' (by (with_reducible repeat (first | apply Kd.R_alloc | apply Kd.R_drewN | apply Kd.R_drew)); exact HO158.out) (Kd.R_base ho0) hb); have n1_ := Aside0.mk (Kd.R_lower (Kd.R_new' ho0 (Kd.R_lt (by (with_reducible repeat (first | apply Kd.R_alloc | apply Kd.R_drewN | apply Kd.R_drew)); exact HO158.out))) (below_size (by repeat (first | (with_reducible first | exact HB.out | apply below_alloc | apply pw_below_drewN | apply below_drew1 | refine below_set ?_ GE143.out | refine below_set ?_ GE144.out) | exact HB.out)))); have n2_ := Aside0.mk (blk_below (g := gb143) (o := .cells #[.int .i64 a0_0] 23 (0, 0)) (by (with_reducible repeat (first | refine blk_drewN ?_ _ | refine blk_drew ?_ | refine blk_alloc ?_ _)); exact BK143.out) hb); have n3_ := Aside0.mk (blk_below (g := gb144) (o := .cells #[.int .i64 a1_0] 23 (0, 0)) (by (with_reducible repeat (first | refine blk_drewN ?_ _ | refine blk_drew ?_ | refine blk_alloc ?_ _)); exact BK144.out) hb); have n4_ := Aside0.mk (below_step (by repeat (first | (with_reducible first | exact HB.out | apply below_alloc | apply pw_below_drewN | apply below_drew1 | refine below_set ?_ GE143.out | refine below_set ?_ GE144.out) | exact HB.out)) hb); clear HO158; clear BK143; clear BK144; clear HB; have HO158 := n0_; have HO162 := n1_; have BK143 := n2_; have BK144 := n3_; have HB := n4_; clear n0_ n1_ n2_ n3_ n4_; (try clear hb); (try clear hb2); (try clear hk); (try clear hi); (try clear ho0)))
        (try simp only [Act.put, List.setIfInBounds_toArray, List.set_cons_zero, List.set_cons_succ])
        go_cut [113] (fun v113 wc => ∃ (kq : Nat) (x113_31 : Bool), v113 = .bool x113_31 ∧ Aside0 (bitloftlaw14_NibbleNode.j1 kq t145 t148 t150 t152 t154 t156 t160 x113_31 = some r) ∧ Aside0 (kq ≤ kj3) ∧ Aside0 (Kd.Q Kd.bool 4 wc w.heap.size (fun k_ => some k_ ≠ (v161 : Value).ownBlock) v157 t156) ∧ Aside0 (Kd.Q Kd.bool 4 wc w.heap.size (fun k_ => some k_ ≠ (v157 : Value).ownBlock) v161 t160) ∧ Aside0 (wc.heap[gb143]? = some (.cells #[.int .i64 a0_0] 23 (0, 0))) ∧ Aside0 (wc.heap[gb144]? = some (.cells #[.int .i64 a1_0] 23 (0, 0))) ∧ Aside0 (Below w.heap.size w wc))
        case first =>
          have H := HC32.out
          clear HC32
          by_cases c46 : t149 = 0
          · rw [if_pos c46] at H
            have c46b0 : (t149 == 0) = true := beq_iff_eq.mpr c46
            have c46b1 : (t149 != 0) = false := bne_eq_false_iff_eq.mpr c46
            clear c46
            (first | rw [c46b0] | (simp only [i64_w, i32_w]; rw [c46b0]) | skip)
            by_cases c47 : t151 = 0
            · rw [if_pos c47] at H
              have c47b0 : (t151 == 0) = true := beq_iff_eq.mpr c47
              have c47b1 : (t151 != 0) = false := bne_eq_false_iff_eq.mpr c47
              clear c47
              by_cases c48 : t153 = 0
              · rw [if_pos c48] at H
                have c48b0 : (t153 == 0) = true := beq_iff_eq.mpr c48
                have c48b1 : (t153 != 0) = false := bne_eq_false_iff_eq.mpr c48
                clear c48
                by_cases c49 : t155 = 0
                · rw [if_pos c49] at H
                  have c49b0 : (t155 == 0) = true := beq_iff_eq.mpr c49
                  have c49b1 : (t155 != 0) = false := bne_eq_false_iff_eq.mpr c49
                  clear c49
                  by_cases c50 : t159 = 0
                  · rw [if_pos c50] at H
                    have c50b0 : (t159 == 0) = true := beq_iff_eq.mpr c50
                    have c50b1 : (t159 != 0) = false := bne_eq_false_iff_eq.mpr c50
                    clear c50
                    by_cases c51 : t163 = 0
                    · rw [if_pos c51] at H
                      have c51b0 : (t163 == 0) = true := beq_iff_eq.mpr c51
                      have c51b1 : (t163 != 0) = false := bne_eq_false_iff_eq.mpr c51
                      clear c51
                      by_cases c52 : t148 < 1
                      · rw [if_pos c52] at H
                        have c52b0 : decide (t148 < 1) = true := decide_eq_true c52
                        clear c52
                        have H' := Aside0.mk H
                        clear H
                        go_wp2
                        go_meet
                        case rel => exact ⟨_, (true), (by first | rfl | (simp; done) | (simp [*]; done)), H', ⟨by have := HJ3.out; first | omega | exact Nat.le_refl _⟩, ⟨Kd.Q_of_R (by (with_reducible repeat (first | apply Kd.R_alloc | apply Kd.R_drewN | apply Kd.R_drew)); exact Kd.R_mono HO158.out (fun _ hk => by first | exact hk.2 | exact hk | exact hk.1 | exact hk.2 | exact hk.1.1 | exact hk.1.2))⟩, ⟨Kd.Q_of_R (by (with_reducible repeat (first | apply Kd.R_alloc | apply Kd.R_drewN | apply Kd.R_drew)); exact Kd.R_mono HO162.out (fun _ hk => by first | exact hk.2 | exact hk | exact hk.1 | exact hk.2 | exact hk.1.1 | exact hk.1.2))⟩, ⟨by (with_reducible repeat (first | refine blk_drewN ?_ _ | refine blk_drew ?_ | refine blk_alloc ?_ _)); exact BK143.out⟩, ⟨by (with_reducible repeat (first | refine blk_drewN ?_ _ | refine blk_drew ?_ | refine blk_alloc ?_ _)); exact BK144.out⟩, ⟨by repeat (first | (with_reducible first | exact HB.out | apply below_alloc | apply pw_below_drewN | apply below_drew1 | refine below_set ?_ GE143.out | refine below_set ?_ GE144.out) | exact HB.out)⟩⟩
                      · rw [if_neg c52] at H
                        have c52b0 : decide (t148 < 1) = false := decide_eq_false c52
                        clear c52
                        by_cases c53 : t148 > 15
                        · rw [if_pos c53] at H
                          have c53b0 : decide (15 < t148) = true := decide_eq_true c53
                          clear c53
                          have H' := Aside0.mk H
                          clear H
                          go_wp2
                          go_meet
                          case rel => exact ⟨_, (true), (by first | rfl | (simp; done) | (simp [*]; done)), H', ⟨by have := HJ3.out; first | omega | exact Nat.le_refl _⟩, ⟨Kd.Q_of_R (by (with_reducible repeat (first | apply Kd.R_alloc | apply Kd.R_drewN | apply Kd.R_drew)); exact Kd.R_mono HO158.out (fun _ hk => by first | exact hk.2 | exact hk | exact hk.1 | exact hk.2 | exact hk.1.1 | exact hk.1.2))⟩, ⟨Kd.Q_of_R (by (with_reducible repeat (first | apply Kd.R_alloc | apply Kd.R_drewN | apply Kd.R_drew)); exact Kd.R_mono HO162.out (fun _ hk => by first | exact hk.2 | exact hk | exact hk.1 | exact hk.2 | exact hk.1.1 | exact hk.1.2))⟩, ⟨by (with_reducible repeat (first | refine blk_drewN ?_ _ | refine blk_drew ?_ | refine blk_alloc ?_ _)); exact BK143.out⟩, ⟨by (with_reducible repeat (first | refine blk_drewN ?_ _ | refine blk_drew ?_ | refine blk_alloc ?_ _)); exact BK144.out⟩, ⟨by repeat (first | (with_reducible first | exact HB.out | apply below_alloc | apply pw_below_drewN | apply below_drew1 | refine below_set ?_ GE143.out | refine below_set ?_ GE144.out) | exact HB.out)⟩⟩
                        · rw [if_neg c53] at H
                          have c53b0 : decide (15 < t148) = false := decide_eq_false c53
                          clear c53
                          by_cases c54 : t150 < 1
                          · rw [if_pos c54] at H
                            have c54b0 : decide (t150 < 1) = true := decide_eq_true c54
                            clear c54
                            have H' := Aside0.mk H
                            clear H
                            go_wp2
                            go_meet
                            case rel => exact ⟨_, (true), (by first | rfl | (simp; done) | (simp [*]; done)), H', ⟨by have := HJ3.out; first | omega | exact Nat.le_refl _⟩, ⟨Kd.Q_of_R (by (with_reducible repeat (first | apply Kd.R_alloc | apply Kd.R_drewN | apply Kd.R_drew)); exact Kd.R_mono HO158.out (fun _ hk => by first | exact hk.2 | exact hk | exact hk.1 | exact hk.2 | exact hk.1.1 | exact hk.1.2))⟩, ⟨Kd.Q_of_R (by (with_reducible repeat (first | apply Kd.R_alloc | apply Kd.R_drewN | apply Kd.R_drew)); exact Kd.R_mono HO162.out (fun _ hk => by first | exact hk.2 | exact hk | exact hk.1 | exact hk.2 | exact hk.1.1 | exact hk.1.2))⟩, ⟨by (with_reducible repeat (first | refine blk_drewN ?_ _ | refine blk_drew ?_ | refine blk_alloc ?_ _)); exact BK143.out⟩, ⟨by (with_reducible repeat (first | refine blk_drewN ?_ _ | refine blk_drew ?_ | refine blk_alloc ?_ _)); exact BK144.out⟩, ⟨by repeat (first | (with_reducible first | exact HB.out | apply below_alloc | apply pw_below_drewN | apply below_drew1 | refine below_set ?_ GE143.out | refine below_set ?_ GE144.out) | exact HB.out)⟩⟩
                          · rw [if_neg c54] at H
                            have c54b0 : decide (t150 < 1) = false := decide_eq_false c54
                            clear c54
                            by_cases c55 : t150 > 15
                            · rw [if_pos c55] at H
                              have c55b0 : decide (15 < t150) = true := decide_eq_true c55
                              clear c55
                              have H' := Aside0.mk H
                              clear H
                              go_wp2
                              go_meet
                              case rel => exact ⟨_, (true), (by first | rfl | (simp; done) | (simp [*]; done)), H', ⟨by have := HJ3.out; first | omega | exact Nat.le_refl _⟩, ⟨Kd.Q_of_R (by (with_reducible repeat (first | apply Kd.R_alloc | apply Kd.R_drewN | apply Kd.R_drew)); exact Kd.R_mono HO158.out (fun _ hk => by first | exact hk.2 | exact hk | exact hk.1 | exact hk.2 | exact hk.1.1 | exact hk.1.2))⟩, ⟨Kd.Q_of_R (by (with_reducible repeat (first | apply Kd.R_alloc | apply Kd.R_drewN | apply Kd.R_drew)); exact Kd.R_mono HO162.out (fun _ hk => by first | exact hk.2 | exact hk | exact hk.1 | exact hk.2 | exact hk.1.1 | exact hk.1.2))⟩, ⟨by (with_reducible repeat (first | refine blk_drewN ?_ _ | refine blk_drew ?_ | refine blk_alloc ?_ _)); exact BK143.out⟩, ⟨by (with_reducible repeat (first | refine blk_drewN ?_ _ | refine blk_drew ?_ | refine blk_alloc ?_ _)); exact BK144.out⟩, ⟨by repeat (first | (with_reducible first | exact HB.out | apply below_alloc | apply pw_below_drewN | apply below_drew1 | refine below_set ?_ GE143.out | refine below_set ?_ GE144.out) | exact HB.out)⟩⟩
                            · rw [if_neg c55] at H
                              have c55b0 : decide (15 < t150) = false := decide_eq_false c55
                              clear c55
                              by_cases c56 : (t152 != (decide ((t156.length : Int) ≥ 4))) = true
                              · rw [if_pos c56] at H
                                have c56b0 : (t152 != (decide ((t156.length : Int) ≥ 4))) = true := c56
                                (try (have c56b1 : decide (t152 = (decide ((t156.length : Int) ≥ 4))) = false := by simpa using c56))
                                (try (have c56b2 : (t152 == (decide ((t156.length : Int) ≥ 4))) = false := by simpa using c56))
                                (try (have c56b3 : ¬ (t152 = (decide ((t156.length : Int) ≥ 4))) := by simpa using c56))
                                clear c56
                                have H' := Aside0.mk H
                                clear H
                                obtain ⟨Ao57, co57, eo57⟩ := Kd.R_slice HO158.out
                                subst eo57
                                go_wp2
                                go_meet
                                case rel => exact ⟨_, (true), (by first | rfl | (simp; done) | (simp [*]; done)), H', ⟨by have := HJ3.out; first | omega | exact Nat.le_refl _⟩, ⟨Kd.Q_of_R (by (with_reducible repeat (first | apply Kd.R_alloc | apply Kd.R_drewN | apply Kd.R_drew)); exact Kd.R_mono HO158.out (fun _ hk => by first | exact hk.2 | exact hk | exact hk.1 | exact hk.2 | exact hk.1.1 | exact hk.1.2))⟩, ⟨Kd.Q_of_R (by (with_reducible repeat (first | apply Kd.R_alloc | apply Kd.R_drewN | apply Kd.R_drew)); exact Kd.R_mono HO162.out (fun _ hk => by first | exact hk.2 | exact hk | exact hk.1 | exact hk.2 | exact hk.1.1 | exact hk.1.2))⟩, ⟨by (with_reducible repeat (first | refine blk_drewN ?_ _ | refine blk_drew ?_ | refine blk_alloc ?_ _)); exact BK143.out⟩, ⟨by (with_reducible repeat (first | refine blk_drewN ?_ _ | refine blk_drew ?_ | refine blk_alloc ?_ _)); exact BK144.out⟩, ⟨by repeat (first | (with_reducible first | exact HB.out | apply below_alloc | apply pw_below_drewN | apply below_drew1 | refine below_set ?_ GE143.out | refine below_set ?_ GE144.out) | exact HB.out)⟩⟩
                              · rw [if_neg c56] at H
                                have c56b0 : (t152 != (decide ((t156.length : Int) ≥ 4))) = false := by simpa using c56
                                (try (have c56b1 : decide (t152 = (decide ((t156.length : Int) ≥ 4))) = true := by simpa using c56))
                                (try (have c56b2 : (t152 == (decide ((t156.length : Int) ≥ 4))) = true := by simpa using c56))
                                clear c56
                                have H' := Aside0.mk H
                                clear H
                                obtain ⟨Ao58, co58, eo58⟩ := Kd.R_slice HO158.out
                                subst eo58
                                obtain ⟨Ao59, co59, eo59⟩ := Kd.R_slice HO162.out
                                subst eo59
                                go_wp2
                                go_meet
                                case rel => exact ⟨_, ((t154 != (decide ((t160.length : Int) ≥ 4)))), (by first | rfl | (simp; done) | (simp [*]; done)), H', ⟨by have := HJ3.out; first | omega | exact Nat.le_refl _⟩, ⟨Kd.Q_of_R (by (with_reducible repeat (first | apply Kd.R_alloc | apply Kd.R_drewN | apply Kd.R_drew)); exact Kd.R_mono HO158.out (fun _ hk => by first | exact hk.2 | exact hk | exact hk.1 | exact hk.2 | exact hk.1.1 | exact hk.1.2))⟩, ⟨Kd.Q_of_R (by (with_reducible repeat (first | apply Kd.R_alloc | apply Kd.R_drewN | apply Kd.R_drew)); exact Kd.R_mono HO162.out (fun _ hk => by first | exact hk.2 | exact hk | exact hk.1 | exact hk.2 | exact hk.1.1 | exact hk.1.2))⟩, ⟨by (with_reducible repeat (first | refine blk_drewN ?_ _ | refine blk_drew ?_ | refine blk_alloc ?_ _)); exact BK143.out⟩, ⟨by (with_reducible repeat (first | refine blk_drewN ?_ _ | refine blk_drew ?_ | refine blk_alloc ?_ _)); exact BK144.out⟩, ⟨by repeat (first | (with_reducible first | exact HB.out | apply below_alloc | apply pw_below_drewN | apply below_drew1 | refine below_set ?_ GE143.out | refine below_set ?_ GE144.out) | exact HB.out)⟩⟩
                    · rw [if_neg c51] at H
                      have c51b0 : (t163 == 0) = false := beq_eq_false_iff_ne.mpr c51
                      have c51b1 : (t163 != 0) = true := bne_iff_ne.mpr c51
                      have H' := Aside0.mk H
                      clear H
                      go_wp2
                      go_meet
                      case rel => exact ⟨_, (true), (by first | rfl | (simp; done) | (simp [*]; done)), H', ⟨by have := HJ3.out; first | omega | exact Nat.le_refl _⟩, ⟨Kd.Q_of_R (by (with_reducible repeat (first | apply Kd.R_alloc | apply Kd.R_drewN | apply Kd.R_drew)); exact Kd.R_mono HO158.out (fun _ hk => by first | exact hk.2 | exact hk | exact hk.1 | exact hk.2 | exact hk.1.1 | exact hk.1.2))⟩, ⟨Kd.Q_of_R (by (with_reducible repeat (first | apply Kd.R_alloc | apply Kd.R_drewN | apply Kd.R_drew)); exact Kd.R_mono HO162.out (fun _ hk => by first | exact hk.2 | exact hk | exact hk.1 | exact hk.2 | exact hk.1.1 | exact hk.1.2))⟩, ⟨by (with_reducible repeat (first | refine blk_drewN ?_ _ | refine blk_drew ?_ | refine blk_alloc ?_ _)); exact BK143.out⟩, ⟨by (with_reducible repeat (first | refine blk_drewN ?_ _ | refine blk_drew ?_ | refine blk_alloc ?_ _)); exact BK144.out⟩, ⟨by repeat (first | (with_reducible first | exact HB.out | apply below_alloc | apply pw_below_drewN | apply below_drew1 | refine below_set ?_ GE143.out | refine below_set ?_ GE144.out) | exact HB.out)⟩⟩
                  · rw [if_neg c50] at H
                    have c50b0 : (t159 == 0) = false := beq_eq_false_iff_ne.mpr c50
                    have c50b1 : (t159 != 0) = true := bne_iff_ne.mpr c50
                    have H' := Aside0.mk H
                    clear H
                    go_wp2
                    go_meet
                    case rel => exact ⟨_, (true), (by first | rfl | (simp; done) | (simp [*]; done)), H', ⟨by have := HJ3.out; first | omega | exact Nat.le_refl _⟩, ⟨Kd.Q_of_R (by (with_reducible repeat (first | apply Kd.R_alloc | apply Kd.R_drewN | apply Kd.R_drew)); exact Kd.R_mono HO158.out (fun _ hk => by first | exact hk.2 | exact hk | exact hk.1 | exact hk.2 | exact hk.1.1 | exact hk.1.2))⟩, ⟨Kd.Q_of_R (by (with_reducible repeat (first | apply Kd.R_alloc | apply Kd.R_drewN | apply Kd.R_drew)); exact Kd.R_mono HO162.out (fun _ hk => by first | exact hk.2 | exact hk | exact hk.1 | exact hk.2 | exact hk.1.1 | exact hk.1.2))⟩, ⟨by (with_reducible repeat (first | refine blk_drewN ?_ _ | refine blk_drew ?_ | refine blk_alloc ?_ _)); exact BK143.out⟩, ⟨by (with_reducible repeat (first | refine blk_drewN ?_ _ | refine blk_drew ?_ | refine blk_alloc ?_ _)); exact BK144.out⟩, ⟨by repeat (first | (with_reducible first | exact HB.out | apply below_alloc | apply pw_below_drewN | apply below_drew1 | refine below_set ?_ GE143.out | refine below_set ?_ GE144.out) | exact HB.out)⟩⟩
                · rw [if_neg c49] at H
                  have c49b0 : (t155 == 0) = false := beq_eq_false_iff_ne.mpr c49
                  have c49b1 : (t155 != 0) = true := bne_iff_ne.mpr c49
                  have H' := Aside0.mk H
                  clear H
                  go_wp2
                  go_meet
                  case rel => exact ⟨_, (true), (by first | rfl | (simp; done) | (simp [*]; done)), H', ⟨by have := HJ3.out; first | omega | exact Nat.le_refl _⟩, ⟨Kd.Q_of_R (by (with_reducible repeat (first | apply Kd.R_alloc | apply Kd.R_drewN | apply Kd.R_drew)); exact Kd.R_mono HO158.out (fun _ hk => by first | exact hk.2 | exact hk | exact hk.1 | exact hk.2 | exact hk.1.1 | exact hk.1.2))⟩, ⟨Kd.Q_of_R (by (with_reducible repeat (first | apply Kd.R_alloc | apply Kd.R_drewN | apply Kd.R_drew)); exact Kd.R_mono HO162.out (fun _ hk => by first | exact hk.2 | exact hk | exact hk.1 | exact hk.2 | exact hk.1.1 | exact hk.1.2))⟩, ⟨by (with_reducible repeat (first | refine blk_drewN ?_ _ | refine blk_drew ?_ | refine blk_alloc ?_ _)); exact BK143.out⟩, ⟨by (with_reducible repeat (first | refine blk_drewN ?_ _ | refine blk_drew ?_ | refine blk_alloc ?_ _)); exact BK144.out⟩, ⟨by repeat (first | (with_reducible first | exact HB.out | apply below_alloc | apply pw_below_drewN | apply below_drew1 | refine below_set ?_ GE143.out | refine below_set ?_ GE144.out) | exact HB.out)⟩⟩
              · rw [if_neg c48] at H
                have c48b0 : (t153 == 0) = false := beq_eq_false_iff_ne.mpr c48
                have c48b1 : (t153 != 0) = true := bne_iff_ne.mpr c48
                have H' := Aside0.mk H
                clear H
                go_wp2
                go_meet
                case rel => exact ⟨_, (true), (by first | rfl | (simp; done) | (simp [*]; done)), H', ⟨by have := HJ3.out; first | omega | exact Nat.le_refl _⟩, ⟨Kd.Q_of_R (by (with_reducible repeat (first | apply Kd.R_alloc | apply Kd.R_drewN | apply Kd.R_drew)); exact Kd.R_mono HO158.out (fun _ hk => by first | exact hk.2 | exact hk | exact hk.1 | exact hk.2 | exact hk.1.1 | exact hk.1.2))⟩, ⟨Kd.Q_of_R (by (with_reducible repeat (first | apply Kd.R_alloc | apply Kd.R_drewN | apply Kd.R_drew)); exact Kd.R_mono HO162.out (fun _ hk => by first | exact hk.2 | exact hk | exact hk.1 | exact hk.2 | exact hk.1.1 | exact hk.1.2))⟩, ⟨by (with_reducible repeat (first | refine blk_drewN ?_ _ | refine blk_drew ?_ | refine blk_alloc ?_ _)); exact BK143.out⟩, ⟨by (with_reducible repeat (first | refine blk_drewN ?_ _ | refine blk_drew ?_ | refine blk_alloc ?_ _)); exact BK144.out⟩, ⟨by repeat (first | (with_reducible first | exact HB.out | apply below_alloc | apply pw_below_drewN | apply below_drew1 | refine below_set ?_ GE143.out | refine below_set ?_ GE144.out) | exact HB.out)⟩⟩
            · rw [if_neg c47] at H
              have c47b0 : (t151 == 0) = false := beq_eq_false_iff_ne.mpr c47
              have c47b1 : (t151 != 0) = true := bne_iff_ne.mpr c47
              have H' := Aside0.mk H
              clear H
              go_wp2
              go_meet
              case rel => exact ⟨_, (true), (by first | rfl | (simp; done) | (simp [*]; done)), H', ⟨by have := HJ3.out; first | omega | exact Nat.le_refl _⟩, ⟨Kd.Q_of_R (by (with_reducible repeat (first | apply Kd.R_alloc | apply Kd.R_drewN | apply Kd.R_drew)); exact Kd.R_mono HO158.out (fun _ hk => by first | exact hk.2 | exact hk | exact hk.1 | exact hk.2 | exact hk.1.1 | exact hk.1.2))⟩, ⟨Kd.Q_of_R (by (with_reducible repeat (first | apply Kd.R_alloc | apply Kd.R_drewN | apply Kd.R_drew)); exact Kd.R_mono HO162.out (fun _ hk => by first | exact hk.2 | exact hk | exact hk.1 | exact hk.2 | exact hk.1.1 | exact hk.1.2))⟩, ⟨by (with_reducible repeat (first | refine blk_drewN ?_ _ | refine blk_drew ?_ | refine blk_alloc ?_ _)); exact BK143.out⟩, ⟨by (with_reducible repeat (first | refine blk_drewN ?_ _ | refine blk_drew ?_ | refine blk_alloc ?_ _)); exact BK144.out⟩, ⟨by repeat (first | (with_reducible first | exact HB.out | apply below_alloc | apply pw_below_drewN | apply below_drew1 | refine below_set ?_ GE143.out | refine below_set ?_ GE144.out) | exact HB.out)⟩⟩
          · rw [if_neg c46] at H
            have c46b0 : (t149 == 0) = false := beq_eq_false_iff_ne.mpr c46
            have c46b1 : (t149 != 0) = true := bne_iff_ne.mpr c46
            (first | rw [c46b0] | (simp only [i64_w, i32_w]; rw [c46b0]) | skip)
            have H' := Aside0.mk H
            clear H
            go_wp2
            go_meet
            case rel => exact ⟨_, (true), (by first | rfl | (simp; done) | (simp [*]; done)), H', ⟨by have := HJ3.out; first | omega | exact Nat.le_refl _⟩, ⟨Kd.Q_of_R (by (with_reducible repeat (first | apply Kd.R_alloc | apply Kd.R_drewN | apply Kd.R_drew)); exact Kd.R_mono HO158.out (fun _ hk => by first | exact hk.2 | exact hk | exact hk.1 | exact hk.2 | exact hk.1.1 | exact hk.1.2))⟩, ⟨Kd.Q_of_R (by (with_reducible repeat (first | apply Kd.R_alloc | apply Kd.R_drewN | apply Kd.R_drew)); exact Kd.R_mono HO162.out (fun _ hk => by first | exact hk.2 | exact hk | exact hk.1 | exact hk.2 | exact hk.1.1 | exact hk.1.2))⟩, ⟨by (with_reducible repeat (first | refine blk_drewN ?_ _ | refine blk_drew ?_ | refine blk_alloc ?_ _)); exact BK143.out⟩, ⟨by (with_reducible repeat (first | refine blk_drewN ?_ _ | refine blk_drew ?_ | refine blk_alloc ?_ _)); exact BK144.out⟩, ⟨by repeat (first | (with_reducible first | exact HB.out | apply below_alloc | apply pw_below_drewN | apply below_drew1 | refine below_set ?_ GE143.out | refine below_set ?_ GE144.out) | exact HB.out)⟩⟩
        case rest =>
          clear HC32
          try clear c1
          try clear c2
          try clear p2
          try clear c3
          try clear c4
          try clear c5
          try clear c8
          try clear c9
          try clear c9b0
          try clear c9b1
          try clear c10
          try clear c11
          try clear c11b0
          try clear c11b1
          try clear c12
          try clear c17
          try clear c22
          try clear c25
          try clear c33
          try clear c46
          try clear c46b0
          try clear c46b1
          try clear c47
          try clear c47b0
          try clear c47b1
          try clear c48
          try clear c48b0
          try clear c48b1
          try clear c49
          try clear c49b0
          try clear c49b1
          try clear c50
          try clear c50b0
          try clear c50b1
          try clear c51
          try clear c51b0
          try clear c51b1
          try clear c52
          try clear c52b0
          try clear c53
          try clear c53b0
          try clear c54
          try clear c54b0
          try clear c55
          try clear c55b0
          try clear c56
          try clear c56b0
          try clear c56b1
          try clear c56b2
          try clear hcz13_0
          try clear hcz15_0
          try clear hcz18_0
          try clear hcz20_0
          try clear hcz23_0
          try clear hcz34_0
          try clear hcz36_0
          try clear hcz38_0
          try clear hcz40_0
          try clear hcz42_0
          try clear hcz44_0
          try clear hfz13_0
          try clear hfz15_0
          try clear hfz18_0
          try clear hfz20_0
          try clear hfz23_0
          try clear hfz34_0
          try clear hfz36_0
          try clear hfz38_0
          try clear hfz40_0
          try clear hfz42_0
          try clear hfz44_0
          try clear p2
          obtain ⟨kq, x113_31, rfl, HA, HJ31, HO_14, HO_16, BK143, BK144, HB⟩ := hcut
          cases kq with
          | zero => exact absurd HA.out (by simp [bitloftlaw14_NibbleNode.j1])
          | succ kj31 =>
            have H := HA.out
            clear HA
            simp only [bitloftlaw14_NibbleNode.j1] at H
            by_cases c60 : x113_31 = true
            · subst c60
              have H1 : (none) = some r := by rw [if_pos rfl] at H; exact H
              clear H
              have H := H1
              clear H1
              exact absurd H (by simp)
            · replace c60 := Bool.eq_false_iff.mpr c60
              subst c60
              have H1 : (if t152 = true then (if 4 ≤ (t156.length : Int) then (bitloftlaw14_NibbleNode.j2 kj31 t145 t148 t150 t154 (t156.drop (4 : Int).toNat) t160) else (none)) else (bitloftlaw14_NibbleNode.j2 kj31 t145 t148 t150 t154 t156 t160)) = some r := by rw [if_neg (show ¬ (false = true) by decide)] at H; exact H
              clear H
              have H := H1
              clear H1
              have HC61 := Aside0.mk H
              clear H
              go_upto_if 114 with (fail)
              go_cut [14] (fun v14 wc => ∃ (kq : Nat) (x14_60 : List Bool), Aside0 (bitloftlaw14_NibbleNode.j2 kq t145 t148 t150 t154 x14_60 t160 = some r) ∧ Aside0 (kq ≤ kj31) ∧ Aside0 (Kd.Q Kd.bool 4 wc w.heap.size (fun k_ => some k_ ≠ (v161 : Value).ownBlock) v14 x14_60) ∧ Aside0 (Kd.Q Kd.bool 4 wc w.heap.size (fun k_ => some k_ ≠ (v14 : Value).ownBlock) v161 t160) ∧ Aside0 (wc.heap[gb143]? = some (.cells #[.int .i64 a0_0] 23 (0, 0))) ∧ Aside0 (wc.heap[gb144]? = some (.cells #[.int .i64 a1_0] 23 (0, 0))) ∧ Aside0 (Below w.heap.size w wc))
              case first =>
                have H := HC61.out
                clear HC61
                by_cases c62 : t152 = true
                · subst c62
                  have H1 : (if 4 ≤ (t156.length : Int) then (bitloftlaw14_NibbleNode.j2 kj31 t145 t148 t150 t154 (t156.drop (4 : Int).toNat) t160) else (none)) = some r := by rw [if_pos rfl] at H; exact H
                  clear H
                  have H := H1
                  clear H1
                  by_cases c63 : 4 ≤ (t156.length : Int)
                  · rw [if_pos c63] at H
                    have c63b0 := eq_true c63
                    have c63b1 : decide (4 ≤ (t156.length : Int)) = true := decide_eq_true c63
                    clear c63
                    obtain ⟨y164, hy164⟩ : ∃ y_ : List Bool, y_ = (t156.drop (4 : Int).toNat) := ⟨_, rfl⟩
                    replace H : (bitloftlaw14_NibbleNode.j2 kj31 t145 t148 t150 t154 y164 t160) = some r := by first | (rw [hy164]; with_reducible exact H) | (have H2_ := (Option.bind_some _ _).symm.trans H; rw [hy164]; with_reducible exact H2_) | (have H2_ := (Option.bind_some _ _).symm.trans H; with_reducible exact H2_) | with_reducible exact H | (rw [hy164]; exact H) | exact H
                    have Ny164 := Aside0.mk hy164
                    clear hy164
                    have H' := Aside0.mk H
                    clear H
                    obtain ⟨Ao64, co64, eo64, _⟩ := Kd.Q_slice HO_14.out
                    subst eo64
                    have q65 : (4 : Int) ≤ ((t156.length : Int) : Int) := of_decide_eq_true (by first | (with_reducible assumption) | assumption)
                    obtain ⟨i065, hi065, _, hsz65, _⟩ := info_parts info4
                    have hcut65 := cut_from (P := Try.prog) 31 4 .i64 Try.underlying31 hi065 1 hsz65 Ao64 t156.length co64 4 (by omega) q65
                    have hr65 := Kd.Q_drop (k := (4 : Int).toNat) HO_14.out (by omega)
                    obtain ⟨A65, hA65⟩ : ∃ A1, A1 = (if co64 = (4 : Int).toNat then Ao64 else (Ao64 : Option Addr).map (·.add ((4 : Int).toNat * 1))) := ⟨_, rfl⟩
                    obtain ⟨c65, hc65⟩ : ∃ c1, c1 = co64 - (4 : Int).toNat := ⟨_, rfl⟩
                    have hy65 : y164.length = t156.length - (4 : Int).toNat := (by rw [Ny164.out, List.length_drop])
                    rw [← Ny164.out] at hr65
                    rw [← hy65, ← hA65, ← hc65] at hcut65
                    replace hr65 : Kd.Q Kd.bool 4 wc w.heap.size (fun k_ => some k_ ≠ (v161 : Value).ownBlock) (.slice A65 y164.length c65) y164 := (by rw [hA65, hc65, hy65]; exact hr65)
                    have HE65 : Aside0 ((Value.slice A65 y164.length c65).ownBlock = (.slice Ao64 t156.length co64 : Value).ownBlock) := ⟨by rw [hA65]; split <;> (cases (Ao64 : Option Addr) <;> rfl)⟩
                    clear hy65 hi065 hsz65 HO_14 hA65 hc65
                    have HO166 := Aside0.mk hr65
                    clear hr65
                    replace q65 := eq_true q65
                    have n_ := Aside0.mk (Kd.Q_mono (ok' := fun k_ => some k_ ≠ (.slice A65 y164.length c65 : Value).ownBlock) HO_16.out (fun k_ hk => (by rw [HE65.out]; exact hk)))
                    clear HO_16
                    have HO_16 := n_
                    clear n_
                    go_wp2
                    go_meet
                    case rel => exact ⟨_, (y164), H', ⟨by have := HJ3.out; have := HJ31.out; first | omega | exact Nat.le_refl _⟩, ⟨by (with_reducible repeat (first | apply Kd.Q_alloc | apply Kd.Q_drewN | apply Kd.Q_drew)); exact HO166.out⟩, ⟨by (with_reducible repeat (first | apply Kd.Q_alloc | apply Kd.Q_drewN | apply Kd.Q_drew)); exact HO_16.out⟩, ⟨by (with_reducible repeat (first | refine blk_drewN ?_ _ | refine blk_drew ?_ | refine blk_alloc ?_ _)); exact BK143.out⟩, ⟨by (with_reducible repeat (first | refine blk_drewN ?_ _ | refine blk_drew ?_ | refine blk_alloc ?_ _)); exact BK144.out⟩, ⟨by repeat (first | (with_reducible first | exact HB.out | apply below_alloc | apply pw_below_drewN | apply below_drew1 | refine below_set ?_ GE143.out | refine below_set ?_ GE144.out) | exact HB.out)⟩⟩
                  · rw [if_neg c63] at H
                    exact absurd H (by simp)
                · replace c62 := Bool.eq_false_iff.mpr c62
                  subst c62
                  have H1 : (bitloftlaw14_NibbleNode.j2 kj31 t145 t148 t150 t154 t156 t160) = some r := by rw [if_neg (show ¬ (false = true) by decide)] at H; exact H
                  clear H
                  have H := H1
                  clear H1
                  have H' := Aside0.mk H
                  clear H
                  go_wp2
                  go_meet
                  case rel => exact ⟨_, (t156), H', ⟨by have := HJ3.out; have := HJ31.out; first | omega | exact Nat.le_refl _⟩, ⟨by (with_reducible repeat (first | apply Kd.Q_alloc | apply Kd.Q_drewN | apply Kd.Q_drew)); exact HO_14.out⟩, ⟨by (with_reducible repeat (first | apply Kd.Q_alloc | apply Kd.Q_drewN | apply Kd.Q_drew)); exact HO_16.out⟩, ⟨by (with_reducible repeat (first | refine blk_drewN ?_ _ | refine blk_drew ?_ | refine blk_alloc ?_ _)); exact BK143.out⟩, ⟨by (with_reducible repeat (first | refine blk_drewN ?_ _ | refine blk_drew ?_ | refine blk_alloc ?_ _)); exact BK144.out⟩, ⟨by repeat (first | (with_reducible first | exact HB.out | apply below_alloc | apply pw_below_drewN | apply below_drew1 | refine below_set ?_ GE143.out | refine below_set ?_ GE144.out) | exact HB.out)⟩⟩
              case rest =>
                clear HC61
                try clear c1
                try clear c2
                try clear p2
                try clear c3
                try clear c4
                try clear c5
                try clear c6
                try clear q6
                try clear c8
                try clear c9
                try clear c9b0
                try clear c9b1
                try clear c10
                try clear c11
                try clear c11b0
                try clear c11b1
                try clear c12
                try clear c17
                try clear c22
                try clear c25
                try clear c33
                try clear c46
                try clear c46b0
                try clear c46b1
                try clear c47
                try clear c47b0
                try clear c47b1
                try clear c48
                try clear c48b0
                try clear c48b1
                try clear c49
                try clear c49b0
                try clear c49b1
                try clear c50
                try clear c50b0
                try clear c50b1
                try clear c51
                try clear c51b0
                try clear c51b1
                try clear c52
                try clear c52b0
                try clear c53
                try clear c53b0
                try clear c54
                try clear c54b0
                try clear c55
                try clear c55b0
                try clear c56
                try clear c56b0
                try clear c56b1
                try clear c56b2
                try clear c60
                try clear c62
                try clear c63
                try clear c63b0
                try clear c63b1
                try clear c65
                try clear q65
                try clear hcz13_0
                try clear hcz15_0
                try clear hcz18_0
                try clear hcz20_0
                try clear hcz23_0
                try clear hcz34_0
                try clear hcz36_0
                try clear hcz38_0
                try clear hcz40_0
                try clear hcz42_0
                try clear hcz44_0
                try clear hfz13_0
                try clear hfz15_0
                try clear hfz18_0
                try clear hfz20_0
                try clear hfz23_0
                try clear hfz34_0
                try clear hfz36_0
                try clear hfz38_0
                try clear hfz40_0
                try clear hfz42_0
                try clear hfz44_0
                try clear p2
                try clear q65
                obtain ⟨kq, x14_60, HA, HJ60, HO_14, HO_16, BK143, BK144, HB⟩ := hcut
                cases kq with
                | zero => exact absurd HA.out (by simp [bitloftlaw14_NibbleNode.j2])
                | succ kj60 =>
                  have H := HA.out
                  clear HA
                  simp only [bitloftlaw14_NibbleNode.j2] at H
                  by_cases c66 : t154 = true
                  · subst c66
                    have H1 : (if 4 ≤ (t160.length : Int) then ((some (t160.drop (4 : Int).toNat : List Bool)).bind fun y167 => (if t145 = true then ((bitloftref14_Part.f kj60 x14_60).bind fun t170 => (if t170 = t148 then ((bitloftref14_Part.f kj60 y167).bind fun t171 => (if t171 = t150 then ((bitloftref14_Same.f kj60 x14_60 y167).bind fun t172 => (some ((t148 == t150) == t172))) else (none))) else (none))) else (none))) else (none)) = some r := by rw [if_pos rfl] at H; exact H
                    clear H
                    have H := H1
                    clear H1
                    by_cases c67 : 4 ≤ (t160.length : Int)
                    · rw [if_pos c67] at H
                      have c67b0 := eq_true c67
                      have c67b1 : decide (4 ≤ (t160.length : Int)) = true := decide_eq_true c67
                      clear c67
                      obtain ⟨y167, hy167⟩ : ∃ y_ : List Bool, y_ = (t160.drop (4 : Int).toNat) := ⟨_, rfl⟩
                      replace H : (if t145 = true then ((bitloftref14_Part.f kj60 x14_60).bind fun t170 => (if t170 = t148 then ((bitloftref14_Part.f kj60 y167).bind fun t171 => (if t171 = t150 then ((bitloftref14_Same.f kj60 x14_60 y167).bind fun t172 => (some ((t148 == t150) == t172))) else (none))) else (none))) else (none)) = some r := by first | (rw [hy167]; with_reducible exact H) | (have H2_ := (Option.bind_some _ _).symm.trans H; rw [hy167]; with_reducible exact H2_) | (have H2_ := (Option.bind_some _ _).symm.trans H; with_reducible exact H2_) | with_reducible exact H | (rw [hy167]; exact H) | exact H
                      have Ny167 := Aside0.mk hy167
                      clear hy167
                      by_cases c68 : t145 = true
                      · subst c68
                        have H1 : ((bitloftref14_Part.f kj60 x14_60).bind fun t170 => (if t170 = t148 then ((bitloftref14_Part.f kj60 y167).bind fun t171 => (if t171 = t150 then ((bitloftref14_Same.f kj60 x14_60 y167).bind fun t172 => (some ((t148 == t150) == t172))) else (none))) else (none))) = some r := by rw [if_pos rfl] at H; exact H
                        clear H
                        have H := H1
                        clear H1
                        replace H := Option.bind_eq_some_iff.mp H
                        obtain ⟨t170, A690, H⟩ := H
                        replace H : (if t170 = t148 then ((bitloftref14_Part.f kj60 y167).bind fun t171 => (if t171 = t150 then ((bitloftref14_Same.f kj60 x14_60 y167).bind fun t172 => (some ((t148 == t150) == t172))) else (none))) else (none)) = some r := H
                        have A69 := Aside0.mk A690
                        clear A690
                        by_cases c70 : t170 = t148
                        · rw [if_pos c70] at H
                          have c70b0 : (t170 == t148) = true := beq_iff_eq.mpr c70
                          have c70b1 : (t170 != t148) = false := bne_eq_false_iff_eq.mpr c70
                          clear c70
                          replace H := Option.bind_eq_some_iff.mp H
                          obtain ⟨t171, A710, H⟩ := H
                          replace H : (if t171 = t150 then ((bitloftref14_Same.f kj60 x14_60 y167).bind fun t172 => (some ((t148 == t150) == t172))) else (none)) = some r := H
                          have A71 := Aside0.mk A710
                          clear A710
                          by_cases c72 : t171 = t150
                          · rw [if_pos c72] at H
                            have c72b0 : (t171 == t150) = true := beq_iff_eq.mpr c72
                            have c72b1 : (t171 != t150) = false := bne_eq_false_iff_eq.mpr c72
                            clear c72
                            replace H := Option.bind_eq_some_iff.mp H
                            obtain ⟨t172, A730, H⟩ := H
                            replace H : (some ((t148 == t150) == t172)) = some r := H
                            have A73 := Aside0.mk A730
                            clear A730
                            obtain rfl := Option.some.inj H
                            obtain ⟨Ao74, co74, eo74, _⟩ := Kd.Q_slice HO_16.out
                            subst eo74
                            have q75 : (4 : Int) ≤ ((t160.length : Int) : Int) := of_decide_eq_true (by first | (with_reducible assumption) | assumption)
                            obtain ⟨i075, hi075, _, hsz75, _⟩ := info_parts info4
                            have hcut75 := cut_from (P := Try.prog) 31 4 .i64 Try.underlying31 hi075 1 hsz75 Ao74 t160.length co74 4 (by omega) q75
                            have hr75 := Kd.Q_drop (k := (4 : Int).toNat) HO_16.out (by omega)
                            obtain ⟨A75, hA75⟩ : ∃ A1, A1 = (if co74 = (4 : Int).toNat then Ao74 else (Ao74 : Option Addr).map (·.add ((4 : Int).toNat * 1))) := ⟨_, rfl⟩
                            obtain ⟨c75, hc75⟩ : ∃ c1, c1 = co74 - (4 : Int).toNat := ⟨_, rfl⟩
                            have hy75 : y167.length = t160.length - (4 : Int).toNat := (by rw [Ny167.out, List.length_drop])
                            rw [← Ny167.out] at hr75
                            rw [← hy75, ← hA75, ← hc75] at hcut75
                            replace hr75 : Kd.Q Kd.bool 4 wc w.heap.size (fun k_ => some k_ ≠ (u14 : Value).ownBlock) (.slice A75 y167.length c75) y167 := (by rw [hA75, hc75, hy75]; exact hr75)
                            have HE75 : Aside0 ((Value.slice A75 y167.length c75).ownBlock = (.slice Ao74 t160.length co74 : Value).ownBlock) := ⟨by rw [hA75]; split <;> (cases (Ao74 : Option Addr) <;> rfl)⟩
                            clear hy75 hi075 hsz75 HO_16 hA75 hc75
                            have HO169 := Aside0.mk hr75
                            clear hr75
                            replace q75 := eq_true q75
                            have n_ := Aside0.mk (Kd.Q_mono (ok' := fun k_ => some k_ ≠ (.slice A75 y167.length c75 : Value).ownBlock) HO_14.out (fun k_ hk => (by rw [HE75.out]; exact hk)))
                            clear HO_14
                            have HO_14 := n_
                            clear n_
                            obtain ⟨Ao76, co76, eo76, _⟩ := Kd.Q_slice HO_14.out
                            subst eo76
                            go_wp2_with (first | (go_at_call 13; (with_reducible refine (bitloftref14_Part.calls kj60 _ _ x14_60 t170 _ ?side1 ?side2 A69.out).mono ?_); (case side1 => repeat (first | exact (Kd.Q_reads' HO_14.out).2.2 | (with_reducible refine Kd.C_alloc ?_ _) | (with_reducible refine Kd.C_drewN ?_ _) | (with_reducible refine Kd.C_drew ?_))); (case side2 => exact (Kd.Q_reads' HO_14.out).2.1); rintro e w' ⟨rfl, ⟨nd, rfl⟩⟩) | (go_at_call 13; (with_reducible refine (bitloftref14_Part.calls kj60 _ _ y167 t171 _ ?side1 ?side2 A71.out).mono ?_); (case side1 => repeat (first | exact (Kd.Q_reads' HO169.out).2.2 | (with_reducible refine Kd.C_alloc ?_ _) | (with_reducible refine Kd.C_drewN ?_ _) | (with_reducible refine Kd.C_drew ?_))); (case side2 => exact (Kd.Q_reads' HO169.out).2.1); rintro e w' ⟨rfl, ⟨nd, rfl⟩⟩) | (go_at_call 14; (with_reducible refine (bitloftref14_Same.calls kj60 _ _ x14_60 _ _ y167 t172 _ ?side1 ?side2 ?side3 ?side4 A73.out).mono ?_); (case side1 => repeat (first | exact (Kd.Q_reads' HO_14.out).2.2 | (with_reducible refine Kd.C_alloc ?_ _) | (with_reducible refine Kd.C_drewN ?_ _) | (with_reducible refine Kd.C_drew ?_))); (case side2 => exact (Kd.Q_reads' HO_14.out).2.1); (case side3 => repeat (first | exact (Kd.Q_reads' HO169.out).2.2 | (with_reducible refine Kd.C_alloc ?_ _) | (with_reducible refine Kd.C_drewN ?_ _) | (with_reducible refine Kd.C_drew ?_))); (case side4 => exact (Kd.Q_reads' HO169.out).2.1); rintro e w' ⟨rfl, ⟨nd, rfl⟩⟩))
                            go_ret
                            exact ⟨by first | rfl | (simp [errW_none, errW_some] <;> rfl) | (simp [*, errW_none, errW_some] <;> rfl), by repeat (first | (with_reducible first | exact HB.out | apply below_alloc | apply pw_below_drewN | apply below_drew1 | refine below_set ?_ GE143.out | refine below_set ?_ GE144.out) | exact HB.out)⟩
                          · rw [if_neg c72] at H
                            exact absurd H (by simp)
                        · rw [if_neg c70] at H
                          exact absurd H (by simp)
                      · replace c68 := Bool.eq_false_iff.mpr c68
                        subst c68
                        have H1 : (none) = some r := by rw [if_neg (show ¬ (false = true) by decide)] at H; exact H
                        clear H
                        have H := H1
                        clear H1
                        exact absurd H (by simp)
                    · rw [if_neg c67] at H
                      exact absurd H (by simp)
                  · replace c66 := Bool.eq_false_iff.mpr c66
                    subst c66
                    have H1 : (if t145 = true then ((bitloftref14_Part.f kj60 x14_60).bind fun t173 => (if t173 = t148 then ((bitloftref14_Part.f kj60 t160).bind fun t174 => (if t174 = t150 then ((bitloftref14_Same.f kj60 x14_60 t160).bind fun t175 => (some ((t148 == t150) == t175))) else (none))) else (none))) else (none)) = some r := by rw [if_neg (show ¬ (false = true) by decide)] at H; exact H
                    clear H
                    have H := H1
                    clear H1
                    by_cases c77 : t145 = true
                    · subst c77
                      have H1 : ((bitloftref14_Part.f kj60 x14_60).bind fun t173 => (if t173 = t148 then ((bitloftref14_Part.f kj60 t160).bind fun t174 => (if t174 = t150 then ((bitloftref14_Same.f kj60 x14_60 t160).bind fun t175 => (some ((t148 == t150) == t175))) else (none))) else (none))) = some r := by rw [if_pos rfl] at H; exact H
                      clear H
                      have H := H1
                      clear H1
                      replace H := Option.bind_eq_some_iff.mp H
                      obtain ⟨t173, A780, H⟩ := H
                      replace H : (if t173 = t148 then ((bitloftref14_Part.f kj60 t160).bind fun t174 => (if t174 = t150 then ((bitloftref14_Same.f kj60 x14_60 t160).bind fun t175 => (some ((t148 == t150) == t175))) else (none))) else (none)) = some r := H
                      have A78 := Aside0.mk A780
                      clear A780
                      by_cases c79 : t173 = t148
                      · rw [if_pos c79] at H
                        have c79b0 : (t173 == t148) = true := beq_iff_eq.mpr c79
                        have c79b1 : (t173 != t148) = false := bne_eq_false_iff_eq.mpr c79
                        clear c79
                        replace H := Option.bind_eq_some_iff.mp H
                        obtain ⟨t174, A800, H⟩ := H
                        replace H : (if t174 = t150 then ((bitloftref14_Same.f kj60 x14_60 t160).bind fun t175 => (some ((t148 == t150) == t175))) else (none)) = some r := H
                        have A80 := Aside0.mk A800
                        clear A800
                        by_cases c81 : t174 = t150
                        · rw [if_pos c81] at H
                          have c81b0 : (t174 == t150) = true := beq_iff_eq.mpr c81
                          have c81b1 : (t174 != t150) = false := bne_eq_false_iff_eq.mpr c81
                          clear c81
                          replace H := Option.bind_eq_some_iff.mp H
                          obtain ⟨t175, A820, H⟩ := H
                          replace H : (some ((t148 == t150) == t175)) = some r := H
                          have A82 := Aside0.mk A820
                          clear A820
                          obtain rfl := Option.some.inj H
                          obtain ⟨Ao83, co83, eo83, _⟩ := Kd.Q_slice HO_14.out
                          subst eo83
                          go_wp2_with (first | (go_at_call 13; (with_reducible refine (bitloftref14_Part.calls kj60 _ _ x14_60 t173 _ ?side1 ?side2 A78.out).mono ?_); (case side1 => repeat (first | exact (Kd.Q_reads' HO_14.out).2.2 | (with_reducible refine Kd.C_alloc ?_ _) | (with_reducible refine Kd.C_drewN ?_ _) | (with_reducible refine Kd.C_drew ?_))); (case side2 => exact (Kd.Q_reads' HO_14.out).2.1); rintro e w' ⟨rfl, ⟨nd, rfl⟩⟩; obtain ⟨Ao84, co84, eo84, _⟩ := Kd.Q_slice HO_16.out; subst eo84) | (go_at_call 13; (with_reducible refine (bitloftref14_Part.calls kj60 _ _ t160 t174 _ ?side1 ?side2 A80.out).mono ?_); (case side1 => repeat (first | exact (Kd.Q_reads' HO_16.out).2.2 | (with_reducible refine Kd.C_alloc ?_ _) | (with_reducible refine Kd.C_drewN ?_ _) | (with_reducible refine Kd.C_drew ?_))); (case side2 => exact (Kd.Q_reads' HO_16.out).2.1); rintro e w' ⟨rfl, ⟨nd, rfl⟩⟩) | (go_at_call 14; (with_reducible refine (bitloftref14_Same.calls kj60 _ _ x14_60 _ _ t160 t175 _ ?side1 ?side2 ?side3 ?side4 A82.out).mono ?_); (case side1 => repeat (first | exact (Kd.Q_reads' HO_14.out).2.2 | (with_reducible refine Kd.C_alloc ?_ _) | (with_reducible refine Kd.C_drewN ?_ _) | (with_reducible refine Kd.C_drew ?_))); (case side2 => exact (Kd.Q_reads' HO_14.out).2.1); (case side3 => repeat (first | exact (Kd.Q_reads' HO_16.out).2.2 | (with_reducible refine Kd.C_alloc ?_ _) | (with_reducible refine Kd.C_drewN ?_ _) | (with_reducible refine Kd.C_drew ?_))); (case side4 => exact (Kd.Q_reads' HO_16.out).2.1); rintro e w' ⟨rfl, ⟨nd, rfl⟩⟩))
                          go_ret
                          exact ⟨by first | rfl | (simp [errW_none, errW_some] <;> rfl) | (simp [*, errW_none, errW_some] <;> rfl), by repeat (first | (with_reducible first | exact HB.out | apply below_alloc | apply pw_below_drewN | apply below_drew1 | refine below_set ?_ GE143.out | refine below_set ?_ GE144.out) | exact HB.out)⟩
                        · rw [if_neg c81] at H
                          exact absurd H (by simp)
                      · rw [if_neg c79] at H
                        exact absurd H (by simp)
                    · replace c77 := Bool.eq_false_iff.mpr c77
                      subst c77
                      have H1 : (none) = some r := by rw [if_neg (show ¬ (false = true) by decide)] at H; exact H
                      clear H
                      have H := H1
                      clear H1
                      exact absurd H (by simp)

/-! ### nibble_Step: function 17 -/
def nibble_Step.f (a0_0 : Int) (a1 : Bool) : Option (Int × Bool × Int × Int) := (nibble_Check.f a0_0).bind fun t178 => (if t178 = 0 then ((nibble_step.f a0_0 a1).bind fun t179 => (if t179 > 255 then ((nibble_New.f).bind fun t180 => (some (t180, true, (t179) % 256, 0))) else (some (t179, false, 0, 0)))) else (some (0, false, 0, t178)))
set_option maxHeartbeats 8000000 in
set_option maxRecDepth 100000 in
theorem nibble_Step.calls (a0_0 : Int) (a1 : Bool) (r1 : Int) (r2 : Bool) (r3 : Int) (r4 : Int) (w : World) (h : nibble_Step.f a0_0 a1 = some (r1, r2, r3, r4)) :
    Calls Try.prog 17 #[.agg #[.int .i64 a0_0], .bool a1] w fun e w' => e = .returned (.tuple #[.agg #[.int .i64 r1], .bool r2, .int .u8 r3, .int .i64 r4]) ∧ Below w.heap.size w w' := by
  have hu23 := Try.underlying23
  have HB := Aside0.mk (Below.refl w.heap.size w)
  have H : ((nibble_Check.f a0_0).bind fun t178 => (if t178 = 0 then ((nibble_step.f a0_0 a1).bind fun t179 => (if t179 > 255 then ((nibble_New.f).bind fun t180 => (some (t180, true, (t179) % 256, 0))) else (some (t179, false, 0, 0)))) else (some (0, false, 0, t178)))) = some (r1, r2, r3, r4) := h
  clear h
  replace H := Option.bind_eq_some_iff.mp H
  obtain ⟨t178, A30, H⟩ := H
  replace H : (if t178 = 0 then ((nibble_step.f a0_0 a1).bind fun t179 => (if t179 > 255 then ((nibble_New.f).bind fun t180 => (some (t180, true, (t179) % 256, 0))) else (some (t179, false, 0, 0)))) else (some (0, false, 0, t178))) = some (r1, r2, r3, r4) := H
  have A3 := Aside0.mk A30
  clear A30
  by_cases c4 : t178 = 0
  · rw [if_pos c4] at H
    have c4b0 : (t178 == 0) = true := beq_iff_eq.mpr c4
    have c4b1 : (t178 != 0) = false := bne_eq_false_iff_eq.mpr c4
    clear c4
    replace H := Option.bind_eq_some_iff.mp H
    obtain ⟨t179, A50, H⟩ := H
    replace H : (if t179 > 255 then ((nibble_New.f).bind fun t180 => (some (t180, true, (t179) % 256, 0))) else (some (t179, false, 0, 0))) = some (r1, r2, r3, r4) := H
    have A5 := Aside0.mk A50
    clear A50
    by_cases c6 : t179 > 255
    · rw [if_pos c6] at H
      have c6b0 : decide (255 < t179) = true := decide_eq_true c6
      clear c6
      replace H := Option.bind_eq_some_iff.mp H
      obtain ⟨t180, A70, H⟩ := H
      replace H : (some (t180, true, (t179) % 256, 0)) = some (r1, r2, r3, r4) := H
      have A7 := Aside0.mk A70
      clear A70
      simp only [Option.some.injEq, Prod.mk.injEq] at H
      obtain ⟨rfl, rfl, rfl, rfl⟩ := H
      go_enter Try.func17, Try.ntmps17
      go_wp2_with (first | ((with_reducible refine gate_dst (N := 2) rfl ?_); refine box_event ?hg (N := 2) ?hd (cs := #[.int .i64 a0_0]) (t := 23) ?hr ?_; (case hd => rfl); (case hg => rfl); (case hr => first | (go_simp; done) | (go_simp; rfl)); intro gb176 hg w8 hbox hb; have n0_ := Aside0.mk (below_step (by repeat (first | (with_reducible first | exact HB.out | apply below_alloc | apply pw_below_drewN | apply below_drew1) | exact HB.out)) hb); have n1_ := Aside0.mk (hbox); have n2_ := Aside0.mk ((by rw [hg]; exact (below_size (by repeat (first | (with_reducible first | exact HB.out | apply below_alloc | apply pw_below_drewN | apply below_drew1) | exact HB.out))) : w.heap.size ≤ gb176)); have n3_ := Aside0.mk ((by rw [hg]; exact (below_size (by repeat (first | (with_reducible first | exact HB.out | apply below_alloc | apply pw_below_drewN | apply below_drew1) | exact HB.out))) : w.heap.size ≤ gb176)); clear HB; have HB := n0_; have BK176 := n1_; have GW176 := n2_; have GE176 := n3_; clear n0_ n1_ n2_ n3_; clear hb hbox hg) | ((with_reducible refine gate_dst (N := 4) rfl ?_); refine box_event ?hg (N := 4) ?hd (cs := #[.int .i64 0]) (t := 23) ?hr ?_; (case hd => rfl); (case hg => rfl); (case hr => first | (go_simp; done) | (go_simp; rfl)); intro gb177 hg w9 hbox hb; have n0_ := Aside0.mk (blk_below (g := gb176) (o := .cells #[.int .i64 a0_0] 23 (0, 0)) (by (with_reducible repeat (first | refine blk_drewN ?_ _ | refine blk_drew ?_ | refine blk_alloc ?_ _)); exact BK176.out) hb); have n1_ := Aside0.mk (below_step (by repeat (first | (with_reducible first | exact HB.out | apply below_alloc | apply pw_below_drewN | apply below_drew1 | refine below_set ?_ GE176.out) | exact HB.out)) hb); have n2_ := Aside0.mk (hbox); have n3_ := Aside0.mk ((by rw [hg]; exact (below_size (by repeat (first | (with_reducible first | exact HB.out | apply below_alloc | apply pw_below_drewN | apply below_drew1 | refine below_set ?_ GE176.out) | exact HB.out))) : w.heap.size ≤ gb177)); have n4_ := Aside0.mk ((by rw [hg]; exact (below_size (by repeat (first | (with_reducible first | exact HB.out | apply below_alloc | apply pw_below_drewN | apply below_drew1 | refine below_set ?_ GE176.out) | exact HB.out))) : w.heap.size ≤ gb177)); have n5_ := Aside0.mk ((by rw [hg]; exact Nat.ne_of_lt (blk_lt (g := gb176) (o := .cells #[.int .i64 a0_0] 23 (0, 0)) (by (with_reducible repeat (first | refine blk_drewN ?_ _ | refine blk_drew ?_ | refine blk_alloc ?_ _)); exact BK176.out)) : gb176 ≠ gb177)); have n6_ := Aside0.mk ((by rw [hg]; exact Nat.ne_of_gt (blk_lt (g := gb176) (o := .cells #[.int .i64 a0_0] 23 (0, 0)) (by (with_reducible repeat (first | refine blk_drewN ?_ _ | refine blk_drew ?_ | refine blk_alloc ?_ _)); exact BK176.out)) : gb177 ≠ gb176)); clear BK176; clear HB; have BK176 := n0_; have HB := n1_; have BK177 := n2_; have GW177 := n3_; have GE177 := n4_; have NB176_177 := n5_; have NB177_176 := n6_; clear n0_ n1_ n2_ n3_ n4_ n5_ n6_; clear hb hbox hg; have hnb10 := NB176_177.out; have hnc10 := NB177_176.out; have hcz11_0 : w9.cell? ⟨gb176, 0, none⟩ = some (.int .i64 a0_0) := (blk_cell BK176.out 0).trans rfl; have hfz11_0 := blk_frozen BK176.out 0) | ((with_reducible refine gate_callee (f := 24) rfl ?_); refine goesL_ (some 11) rfl rfl Try.func24 (by kernel_rfl) rfl #[.agg #[.int .i64 a0_0]] rfl (by (try simp only [List.map_toArray, List.map_cons, List.map_nil]); first | done | rfl | (simp only [List.length_drop, List.length_take]; rfl)) ?_; (with_reducible refine (nibble_Check.calls a0_0 t178 _ A3.out).mono ?_); rintro e w12 ⟨rfl, hb⟩; refine ⟨_, rfl, ?_⟩; have n0_ := Aside0.mk (blk_below (g := gb176) (o := .cells #[.int .i64 a0_0] 23 (0, 0)) (by (with_reducible repeat (first | refine blk_drewN ?_ _ | refine blk_drew ?_ | refine blk_alloc ?_ _)); exact BK176.out) hb); have n1_ := Aside0.mk (blk_below (g := gb177) (o := .cells #[.int .i64 0] 23 (0, 0)) (by (with_reducible repeat (first | refine blk_drewN ?_ _ | refine blk_drew ?_ | refine blk_alloc ?_ _)); exact BK177.out) hb); have n2_ := Aside0.mk (below_step (by repeat (first | (with_reducible first | exact HB.out | apply below_alloc | apply pw_below_drewN | apply below_drew1 | refine below_set ?_ GE176.out | refine below_set ?_ GE177.out) | exact HB.out)) hb); clear BK176; clear BK177; clear HB; have BK176 := n0_; have BK177 := n1_; have HB := n2_; clear n0_ n1_ n2_; (try clear hb); (try clear hb2); (try clear hk); (try clear hi); have hcz13_0 : w12.cell? ⟨gb176, 0, none⟩ = some (.int .i64 a0_0) := (blk_cell BK176.out 0).trans rfl; have hfz13_0 := blk_frozen BK176.out 0) | ((with_reducible refine gate_callee (f := 28) rfl ?_); refine goesL_ (some 19) rfl rfl Try.func28 (by kernel_rfl) rfl #[.int .i64 a0_0, .bool a1] rfl (by (try simp only [List.map_toArray, List.map_cons, List.map_nil]); first | done | rfl | (simp only [List.length_drop, List.length_take]; rfl)) ?_; (with_reducible refine (nibble_step.calls a0_0 a1 t179 _ A5.out).mono ?_); rintro e w' ⟨rfl, ⟨nd, rfl⟩⟩; refine ⟨_, rfl, ?_⟩; (try (rw [drewN_self w12]; generalize hq_ : World.drewN w12 _ = w12; have n0_ : Aside0 (w12.heap[gb176]? = some (.cells #[.int .i64 a0_0] 23 (0, 0))) := ⟨by rw [← hq_]; exact (by (with_reducible repeat (first | refine blk_drewN ?_ _ | refine blk_drew ?_ | refine blk_alloc ?_ _)); exact BK176.out)⟩; have n1_ : Aside0 (w12.heap[gb177]? = some (.cells #[.int .i64 0] 23 (0, 0))) := ⟨by rw [← hq_]; exact (by (with_reducible repeat (first | refine blk_drewN ?_ _ | refine blk_drew ?_ | refine blk_alloc ?_ _)); exact BK177.out)⟩; have n2_ : Aside0 (Below w.heap.size w w12) := ⟨by rw [← hq_]; exact (by repeat (first | (with_reducible first | exact HB.out | apply below_alloc | apply pw_below_drewN | apply below_drew1 | refine below_set ?_ GE176.out | refine below_set ?_ GE177.out) | exact HB.out))⟩; clear BK176 BK177 HB hq_; have BK176 := n0_; have BK177 := n1_; have HB := n2_; clear n0_ n1_ n2_)); (try have hcuBK176_0 : w12.cell? ⟨gb176, 0, none⟩ = some (.int .i64 a0_0) := (blk_cell BK176.out 0).trans rfl); (try have hfuBK176_0 := blk_frozen BK176.out 0); (try have hcuBK177_0 : w12.cell? ⟨gb177, 0, none⟩ = some (.int .i64 0) := (blk_cell BK177.out 0).trans rfl); (try have hfuBK177_0 := blk_frozen BK177.out 0)) | ((with_reducible refine gate_callee (f := 16) rfl ?_); refine goesL_ (some 22) rfl rfl Try.func16 (by kernel_rfl) rfl #[] rfl (by (try simp only [List.map_toArray, List.map_cons, List.map_nil]); first | done | rfl | (simp only [List.length_drop, List.length_take]; rfl)) ?_; (with_reducible refine (nibble_New.calls  t180 _ A7.out).mono ?_); rintro e w14 ⟨rfl, hb⟩; refine ⟨_, rfl, ?_⟩; have n0_ := Aside0.mk (blk_below (g := gb176) (o := .cells #[.int .i64 a0_0] 23 (0, 0)) (by (with_reducible repeat (first | refine blk_drewN ?_ _ | refine blk_drew ?_ | refine blk_alloc ?_ _)); exact BK176.out) hb); have n1_ := Aside0.mk (blk_below (g := gb177) (o := .cells #[.int .i64 0] 23 (0, 0)) (by (with_reducible repeat (first | refine blk_drewN ?_ _ | refine blk_drew ?_ | refine blk_alloc ?_ _)); exact BK177.out) hb); have n2_ := Aside0.mk (below_step (by repeat (first | (with_reducible first | exact HB.out | apply below_alloc | apply pw_below_drewN | apply below_drew1 | refine below_set ?_ GE176.out | refine below_set ?_ GE177.out) | exact HB.out)) hb); clear BK176; clear BK177; clear HB; have BK176 := n0_; have BK177 := n1_; have HB := n2_; clear n0_ n1_ n2_; (try clear hb); (try clear hb2); (try clear hk); (try clear hi); have hcz15_0 : w14.cell? ⟨gb177, 0, none⟩ = some (.int .i64 0) := (blk_cell BK177.out 0).trans rfl; have hfz15_0 := blk_frozen BK177.out 0))
      refine bodyPost_ret (results_list (rs := [.cell 4 23, .tmp 5, .tmp 6, .tmp 7]) rfl (by simp) (.cell gb177 23 #[.int .i64 t180] (0, 0) _ rfl (by (with_reducible repeat (first | refine blk_drewN ?_ _ | refine blk_drew ?_ | refine blk_alloc ?_ _)); refine blk_put (cs := #[.int .i64 0]) ?_ 0 _ rfl; (with_reducible repeat (first | refine blk_drewN ?_ _ | refine blk_drew ?_ | refine blk_alloc ?_ _)); exact BK177.out) Try.underlying23 rfl (by kernel_rfl) (.tmp (.tmp (.tmp .nil))))) rfl ?_
      exact ⟨by first | rfl | (simp [errW_none, errW_some] <;> rfl) | (simp [*, errW_none, errW_some] <;> rfl), by repeat (first | (with_reducible first | exact HB.out | apply below_alloc | apply pw_below_drewN | apply below_drew1 | refine below_set ?_ GE176.out | refine below_set ?_ GE177.out) | exact HB.out)⟩
    · rw [if_neg c6] at H
      have c6b0 : decide (255 < t179) = false := decide_eq_false c6
      clear c6
      simp only [Option.some.injEq, Prod.mk.injEq] at H
      obtain ⟨rfl, rfl, rfl, rfl⟩ := H
      go_enter Try.func17, Try.ntmps17
      go_wp2_with (first | ((with_reducible refine gate_dst (N := 2) rfl ?_); refine box_event ?hg (N := 2) ?hd (cs := #[.int .i64 a0_0]) (t := 23) ?hr ?_; (case hd => rfl); (case hg => rfl); (case hr => first | (go_simp; done) | (go_simp; rfl)); intro gb176 hg w16 hbox hb; have n0_ := Aside0.mk (below_step (by repeat (first | (with_reducible first | exact HB.out | apply below_alloc | apply pw_below_drewN | apply below_drew1) | exact HB.out)) hb); have n1_ := Aside0.mk (hbox); have n2_ := Aside0.mk ((by rw [hg]; exact (below_size (by repeat (first | (with_reducible first | exact HB.out | apply below_alloc | apply pw_below_drewN | apply below_drew1) | exact HB.out))) : w.heap.size ≤ gb176)); have n3_ := Aside0.mk ((by rw [hg]; exact (below_size (by repeat (first | (with_reducible first | exact HB.out | apply below_alloc | apply pw_below_drewN | apply below_drew1) | exact HB.out))) : w.heap.size ≤ gb176)); clear HB; have HB := n0_; have BK176 := n1_; have GW176 := n2_; have GE176 := n3_; clear n0_ n1_ n2_ n3_; clear hb hbox hg) | ((with_reducible refine gate_dst (N := 4) rfl ?_); refine box_event ?hg (N := 4) ?hd (cs := #[.int .i64 0]) (t := 23) ?hr ?_; (case hd => rfl); (case hg => rfl); (case hr => first | (go_simp; done) | (go_simp; rfl)); intro gb177 hg w17 hbox hb; have n0_ := Aside0.mk (blk_below (g := gb176) (o := .cells #[.int .i64 a0_0] 23 (0, 0)) (by (with_reducible repeat (first | refine blk_drewN ?_ _ | refine blk_drew ?_ | refine blk_alloc ?_ _)); exact BK176.out) hb); have n1_ := Aside0.mk (below_step (by repeat (first | (with_reducible first | exact HB.out | apply below_alloc | apply pw_below_drewN | apply below_drew1 | refine below_set ?_ GE176.out) | exact HB.out)) hb); have n2_ := Aside0.mk (hbox); have n3_ := Aside0.mk ((by rw [hg]; exact (below_size (by repeat (first | (with_reducible first | exact HB.out | apply below_alloc | apply pw_below_drewN | apply below_drew1 | refine below_set ?_ GE176.out) | exact HB.out))) : w.heap.size ≤ gb177)); have n4_ := Aside0.mk ((by rw [hg]; exact (below_size (by repeat (first | (with_reducible first | exact HB.out | apply below_alloc | apply pw_below_drewN | apply below_drew1 | refine below_set ?_ GE176.out) | exact HB.out))) : w.heap.size ≤ gb177)); have n5_ := Aside0.mk ((by rw [hg]; exact Nat.ne_of_lt (blk_lt (g := gb176) (o := .cells #[.int .i64 a0_0] 23 (0, 0)) (by (with_reducible repeat (first | refine blk_drewN ?_ _ | refine blk_drew ?_ | refine blk_alloc ?_ _)); exact BK176.out)) : gb176 ≠ gb177)); have n6_ := Aside0.mk ((by rw [hg]; exact Nat.ne_of_gt (blk_lt (g := gb176) (o := .cells #[.int .i64 a0_0] 23 (0, 0)) (by (with_reducible repeat (first | refine blk_drewN ?_ _ | refine blk_drew ?_ | refine blk_alloc ?_ _)); exact BK176.out)) : gb177 ≠ gb176)); clear BK176; clear HB; have BK176 := n0_; have HB := n1_; have BK177 := n2_; have GW177 := n3_; have GE177 := n4_; have NB176_177 := n5_; have NB177_176 := n6_; clear n0_ n1_ n2_ n3_ n4_ n5_ n6_; clear hb hbox hg; have hnb18 := NB176_177.out; have hnc18 := NB177_176.out; have hcz19_0 : w17.cell? ⟨gb176, 0, none⟩ = some (.int .i64 a0_0) := (blk_cell BK176.out 0).trans rfl; have hfz19_0 := blk_frozen BK176.out 0) | ((with_reducible refine gate_callee (f := 24) rfl ?_); refine goesL_ (some 11) rfl rfl Try.func24 (by kernel_rfl) rfl #[.agg #[.int .i64 a0_0]] rfl (by (try simp only [List.map_toArray, List.map_cons, List.map_nil]); first | done | rfl | (simp only [List.length_drop, List.length_take]; rfl)) ?_; (with_reducible refine (nibble_Check.calls a0_0 t178 _ A3.out).mono ?_); rintro e w20 ⟨rfl, hb⟩; refine ⟨_, rfl, ?_⟩; have n0_ := Aside0.mk (blk_below (g := gb176) (o := .cells #[.int .i64 a0_0] 23 (0, 0)) (by (with_reducible repeat (first | refine blk_drewN ?_ _ | refine blk_drew ?_ | refine blk_alloc ?_ _)); exact BK176.out) hb); have n1_ := Aside0.mk (blk_below (g := gb177) (o := .cells #[.int .i64 0] 23 (0, 0)) (by (with_reducible repeat (first | refine blk_drewN ?_ _ | refine blk_drew ?_ | refine blk_alloc ?_ _)); exact BK177.out) hb); have n2_ := Aside0.mk (below_step (by repeat (first | (with_reducible first | exact HB.out | apply below_alloc | apply pw_below_drewN | apply below_drew1 | refine below_set ?_ GE176.out | refine below_set ?_ GE177.out) | exact HB.out)) hb); clear BK176; clear BK177; clear HB; have BK176 := n0_; have BK177 := n1_; have HB := n2_; clear n0_ n1_ n2_; (try clear hb); (try clear hb2); (try clear hk); (try clear hi); have hcz21_0 : w20.cell? ⟨gb176, 0, none⟩ = some (.int .i64 a0_0) := (blk_cell BK176.out 0).trans rfl; have hfz21_0 := blk_frozen BK176.out 0) | ((with_reducible refine gate_callee (f := 28) rfl ?_); refine goesL_ (some 19) rfl rfl Try.func28 (by kernel_rfl) rfl #[.int .i64 a0_0, .bool a1] rfl (by (try simp only [List.map_toArray, List.map_cons, List.map_nil]); first | done | rfl | (simp only [List.length_drop, List.length_take]; rfl)) ?_; (with_reducible refine (nibble_step.calls a0_0 a1 t179 _ A5.out).mono ?_); rintro e w' ⟨rfl, ⟨nd, rfl⟩⟩; refine ⟨_, rfl, ?_⟩; (try (rw [drewN_self w20]; generalize hq_ : World.drewN w20 _ = w20; have n0_ : Aside0 (w20.heap[gb176]? = some (.cells #[.int .i64 a0_0] 23 (0, 0))) := ⟨by rw [← hq_]; exact (by (with_reducible repeat (first | refine blk_drewN ?_ _ | refine blk_drew ?_ | refine blk_alloc ?_ _)); exact BK176.out)⟩; have n1_ : Aside0 (w20.heap[gb177]? = some (.cells #[.int .i64 0] 23 (0, 0))) := ⟨by rw [← hq_]; exact (by (with_reducible repeat (first | refine blk_drewN ?_ _ | refine blk_drew ?_ | refine blk_alloc ?_ _)); exact BK177.out)⟩; have n2_ : Aside0 (Below w.heap.size w w20) := ⟨by rw [← hq_]; exact (by repeat (first | (with_reducible first | exact HB.out | apply below_alloc | apply pw_below_drewN | apply below_drew1 | refine below_set ?_ GE176.out | refine below_set ?_ GE177.out) | exact HB.out))⟩; clear BK176 BK177 HB hq_; have BK176 := n0_; have BK177 := n1_; have HB := n2_; clear n0_ n1_ n2_)); (try have hcuBK176_0 : w20.cell? ⟨gb176, 0, none⟩ = some (.int .i64 a0_0) := (blk_cell BK176.out 0).trans rfl); (try have hfuBK176_0 := blk_frozen BK176.out 0); (try have hcuBK177_0 : w20.cell? ⟨gb177, 0, none⟩ = some (.int .i64 0) := (blk_cell BK177.out 0).trans rfl); (try have hfuBK177_0 := blk_frozen BK177.out 0); have hcz22_0 : w20.cell? ⟨gb177, 0, none⟩ = some (.int .i64 0) := (blk_cell BK177.out 0).trans rfl; have hfz22_0 := blk_frozen BK177.out 0))
      refine bodyPost_ret (results_list (rs := [.cell 4 23, .tmp 5, .tmp 6, .tmp 7]) rfl (by simp) (.cell gb177 23 #[.int .i64 t179] (0, 0) _ rfl (by (with_reducible repeat (first | refine blk_drewN ?_ _ | refine blk_drew ?_ | refine blk_alloc ?_ _)); refine blk_put (cs := #[.int .i64 0]) ?_ 0 _ rfl; (with_reducible repeat (first | refine blk_drewN ?_ _ | refine blk_drew ?_ | refine blk_alloc ?_ _)); exact BK177.out) Try.underlying23 rfl (by kernel_rfl) (.tmp (.tmp (.tmp .nil))))) rfl ?_
      exact ⟨by first | rfl | (simp [errW_none, errW_some] <;> rfl) | (simp [*, errW_none, errW_some] <;> rfl), by repeat (first | (with_reducible first | exact HB.out | apply below_alloc | apply pw_below_drewN | apply below_drew1 | refine below_set ?_ GE176.out | refine below_set ?_ GE177.out) | exact HB.out)⟩
  · rw [if_neg c4] at H
    have c4b0 : (t178 == 0) = false := beq_eq_false_iff_ne.mpr c4
    have c4b1 : (t178 != 0) = true := bne_iff_ne.mpr c4
    simp only [Option.some.injEq, Prod.mk.injEq] at H
    obtain ⟨rfl, rfl, rfl, rfl⟩ := H
    go_enter Try.func17, Try.ntmps17
    go_wp2_with (first | ((with_reducible refine gate_dst (N := 2) rfl ?_); refine box_event ?hg (N := 2) ?hd (cs := #[.int .i64 a0_0]) (t := 23) ?hr ?_; (case hd => rfl); (case hg => rfl); (case hr => first | (go_simp; done) | (go_simp; rfl)); intro gb176 hg w23 hbox hb; have n0_ := Aside0.mk (below_step (by repeat (first | (with_reducible first | exact HB.out | apply below_alloc | apply pw_below_drewN | apply below_drew1) | exact HB.out)) hb); have n1_ := Aside0.mk (hbox); have n2_ := Aside0.mk ((by rw [hg]; exact (below_size (by repeat (first | (with_reducible first | exact HB.out | apply below_alloc | apply pw_below_drewN | apply below_drew1) | exact HB.out))) : w.heap.size ≤ gb176)); have n3_ := Aside0.mk ((by rw [hg]; exact (below_size (by repeat (first | (with_reducible first | exact HB.out | apply below_alloc | apply pw_below_drewN | apply below_drew1) | exact HB.out))) : w.heap.size ≤ gb176)); clear HB; have HB := n0_; have BK176 := n1_; have GW176 := n2_; have GE176 := n3_; clear n0_ n1_ n2_ n3_; clear hb hbox hg) | ((with_reducible refine gate_dst (N := 4) rfl ?_); refine box_event ?hg (N := 4) ?hd (cs := #[.int .i64 0]) (t := 23) ?hr ?_; (case hd => rfl); (case hg => rfl); (case hr => first | (go_simp; done) | (go_simp; rfl)); intro gb177 hg w24 hbox hb; have n0_ := Aside0.mk (blk_below (g := gb176) (o := .cells #[.int .i64 a0_0] 23 (0, 0)) (by (with_reducible repeat (first | refine blk_drewN ?_ _ | refine blk_drew ?_ | refine blk_alloc ?_ _)); exact BK176.out) hb); have n1_ := Aside0.mk (below_step (by repeat (first | (with_reducible first | exact HB.out | apply below_alloc | apply pw_below_drewN | apply below_drew1 | refine below_set ?_ GE176.out) | exact HB.out)) hb); have n2_ := Aside0.mk (hbox); have n3_ := Aside0.mk ((by rw [hg]; exact (below_size (by repeat (first | (with_reducible first | exact HB.out | apply below_alloc | apply pw_below_drewN | apply below_drew1 | refine below_set ?_ GE176.out) | exact HB.out))) : w.heap.size ≤ gb177)); have n4_ := Aside0.mk ((by rw [hg]; exact (below_size (by repeat (first | (with_reducible first | exact HB.out | apply below_alloc | apply pw_below_drewN | apply below_drew1 | refine below_set ?_ GE176.out) | exact HB.out))) : w.heap.size ≤ gb177)); have n5_ := Aside0.mk ((by rw [hg]; exact Nat.ne_of_lt (blk_lt (g := gb176) (o := .cells #[.int .i64 a0_0] 23 (0, 0)) (by (with_reducible repeat (first | refine blk_drewN ?_ _ | refine blk_drew ?_ | refine blk_alloc ?_ _)); exact BK176.out)) : gb176 ≠ gb177)); have n6_ := Aside0.mk ((by rw [hg]; exact Nat.ne_of_gt (blk_lt (g := gb176) (o := .cells #[.int .i64 a0_0] 23 (0, 0)) (by (with_reducible repeat (first | refine blk_drewN ?_ _ | refine blk_drew ?_ | refine blk_alloc ?_ _)); exact BK176.out)) : gb177 ≠ gb176)); clear BK176; clear HB; have BK176 := n0_; have HB := n1_; have BK177 := n2_; have GW177 := n3_; have GE177 := n4_; have NB176_177 := n5_; have NB177_176 := n6_; clear n0_ n1_ n2_ n3_ n4_ n5_ n6_; clear hb hbox hg; have hnb25 := NB176_177.out; have hnc25 := NB177_176.out; have hcz26_0 : w24.cell? ⟨gb176, 0, none⟩ = some (.int .i64 a0_0) := (blk_cell BK176.out 0).trans rfl; have hfz26_0 := blk_frozen BK176.out 0) | ((with_reducible refine gate_callee (f := 24) rfl ?_); refine goesL_ (some 11) rfl rfl Try.func24 (by kernel_rfl) rfl #[.agg #[.int .i64 a0_0]] rfl (by (try simp only [List.map_toArray, List.map_cons, List.map_nil]); first | done | rfl | (simp only [List.length_drop, List.length_take]; rfl)) ?_; (with_reducible refine (nibble_Check.calls a0_0 t178 _ A3.out).mono ?_); rintro e w27 ⟨rfl, hb⟩; refine ⟨_, rfl, ?_⟩; have n0_ := Aside0.mk (blk_below (g := gb176) (o := .cells #[.int .i64 a0_0] 23 (0, 0)) (by (with_reducible repeat (first | refine blk_drewN ?_ _ | refine blk_drew ?_ | refine blk_alloc ?_ _)); exact BK176.out) hb); have n1_ := Aside0.mk (blk_below (g := gb177) (o := .cells #[.int .i64 0] 23 (0, 0)) (by (with_reducible repeat (first | refine blk_drewN ?_ _ | refine blk_drew ?_ | refine blk_alloc ?_ _)); exact BK177.out) hb); have n2_ := Aside0.mk (below_step (by repeat (first | (with_reducible first | exact HB.out | apply below_alloc | apply pw_below_drewN | apply below_drew1 | refine below_set ?_ GE176.out | refine below_set ?_ GE177.out) | exact HB.out)) hb); clear BK176; clear BK177; clear HB; have BK176 := n0_; have BK177 := n1_; have HB := n2_; clear n0_ n1_ n2_; (try clear hb); (try clear hb2); (try clear hk); (try clear hi); have hcz28_0 : w27.cell? ⟨gb177, 0, none⟩ = some (.int .i64 0) := (blk_cell BK177.out 0).trans rfl; have hfz28_0 := blk_frozen BK177.out 0))
    refine bodyPost_ret (results_list (rs := [.cell 4 23, .tmp 5, .tmp 6, .tmp 7]) rfl (by simp) (.cell gb177 23 #[.int .i64 0] (0, 0) _ rfl (by (with_reducible repeat (first | refine blk_drewN ?_ _ | refine blk_drew ?_ | refine blk_alloc ?_ _)); refine blk_put (cs := #[.int .i64 0]) ?_ 0 _ rfl; (with_reducible repeat (first | refine blk_drewN ?_ _ | refine blk_drew ?_ | refine blk_alloc ?_ _)); exact BK177.out) Try.underlying23 rfl (by kernel_rfl) (.tmp (.tmp (.tmp .nil))))) rfl ?_
    exact ⟨by first | rfl | (simp [errW_none, errW_some] <;> rfl) | (simp [*, errW_none, errW_some] <;> rfl), by repeat (first | (with_reducible first | exact HB.out | apply below_alloc | apply pw_below_drewN | apply below_drew1 | refine below_set ?_ GE176.out | refine below_set ?_ GE177.out) | exact HB.out)⟩

end Go.Proofs.Ytnbfpchbaghmfaa.QN1
