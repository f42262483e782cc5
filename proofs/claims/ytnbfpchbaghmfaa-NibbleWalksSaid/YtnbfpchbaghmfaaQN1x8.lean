-- Written by qprint.py (a program of this session) out of the translation's print. Not trusted: Lean checks it.
import Derived.Test.YtnbfpchbaghmfaaQN1x0
import Derived.Test.YtnbfpchbaghmfaaQN1x1
import Derived.Test.YtnbfpchbaghmfaaQN1x2
import Derived.Test.YtnbfpchbaghmfaaQN1x3
import Derived.Test.YtnbfpchbaghmfaaQN1x4
import Derived.Test.YtnbfpchbaghmfaaQN1x5
import Derived.Test.YtnbfpchbaghmfaaQN1x7
namespace Go.Proofs.Ytnbfpchbaghmfaa.QN1
open Go.RowKit Go.Proofs.YtnbfpchbaghmfaaW.PrintWords Go.Proofs.YtnbfpchbaghmfaaW.PrintLast Go.Proofs.YtnbfpchbaghmfaaW.PrintMore
attribute [local go_sem] max2_int min2_int max_two min_two max_three min_three max_four min_four   -- for this text's walks alone
set_option linter.unusedVariables false
set_option linter.unusedSimpArgs false

attribute [local go_sem high] eqA23 eqA37
/-! ### bitloftlaw14_NibbleWalks: function 5 -/
def bitloftlaw14_NibbleWalks.j0 : Nat → Int → List Bool → Bool → Int → Option (Bool)
  | 0, _, _, _, _ => none
  | k + 1, x2, x3, x89, x256000 => if x89 = true then (none) else ((nibble_Second.f x256000).bind fun bt270 => ((bitloftref14_Second.f k x256000).bind fun bt272 => ((nibble_Bits.f k x256000).bind fun bt274 => ((bitloftref14_Bits.f k x256000).bind fun bt278 => ((nibble_Of.f k x3).bind fun bt282 => ((bitloftref14_Of.f k x3).bind fun bt285 => ((nibble_New.f).bind fun t288 => (if (t288 == 1) = true then ((nibble_Check.f x256000).bind fun t289 => ((bitloftref14_Check.f x256000).bind fun t290 => (if t289 = t290 then (if (bt270.1 == bt272.1) = true then (if bt270.2 = bt272.2 then ((bitloftref14_Same.f k bt274.1 bt278.1).bind fun t291 => (if t291 = true then (if bt274.2 = bt278.2 then (if (bt282.1 == bt285.1) = true then (if bt282.2 = bt285.2 then ((nibble_Path.f k x2).bind fun bt292 => ((bitloftref14_Path.f k x2).bind fun bt300 => (some (bt292.1 == bt300.1 && (bt292.2.1 == bt300.2.1 && (bt292.2.2.1 == bt300.2.2.1 && (bt292.2.2.2.1 == bt300.2.2.2.1 && (bt292.2.2.2.2.1 == bt300.2.2.2.2.1 && (bt292.2.2.2.2.2.1 == bt300.2.2.2.2.2.1 && (bt292.2.2.2.2.2.2.1 == bt300.2.2.2.2.2.2.1 && (bt292.2.2.2.2.2.2.2 == bt300.2.2.2.2.2.2.2))))))))))) else (none)) else (none)) else (none)) else (none))) else (none)) else (none)) else (none)))) else (none)))))))))
def bitloftlaw14_NibbleWalks.f (k : Nat) (a0_0 : Int) (a1 : Bool) (a2 : Int) (l3 : List Bool) : Option (Bool) := if (l3.length : Int) > 100 then (some true) else ((nibble_Step.f a0_0 a1).bind fun bt256 => ((bitloftref14_Step.f k a0_0 a1).bind fun bt261 => ((nibble_Node.f k a0_0).bind fun bt266 => ((bitloftref14_Node.f k a0_0).bind fun bt268 => (if (!(bt256.1 == bt261.1)) = true then (bitloftlaw14_NibbleWalks.j0 k a2 l3 true a0_0) else (if (bt256.2.1 != bt261.2.1) = true then (bitloftlaw14_NibbleWalks.j0 k a2 l3 true a0_0) else (if bt256.2.2.1 = bt261.2.2.1 then (if bt256.2.2.2 = bt261.2.2.2 then (if bt266.1 = bt268.1 then (bitloftlaw14_NibbleWalks.j0 k a2 l3 (bt266.2 != bt268.2) a0_0) else (bitloftlaw14_NibbleWalks.j0 k a2 l3 true a0_0)) else (bitloftlaw14_NibbleWalks.j0 k a2 l3 true a0_0)) else (bitloftlaw14_NibbleWalks.j0 k a2 l3 true a0_0))))))))
theorem bitloftlaw14_NibbleWalks.mono_l : ∀ k, (∀ y0 y1 y2 y3, LeO (bitloftlaw14_NibbleWalks.j0 k y0 y1 y2 y3) (bitloftlaw14_NibbleWalks.j0 (k + 1) y0 y1 y2 y3))
  | 0 => fun _ _ _ _ r h => by simp [bitloftlaw14_NibbleWalks.j0] at h
  | k + 1 => by
    have ih0 := bitloftlaw14_NibbleWalks.mono_l k
    · intro y0 y1 y2 y3
      unfold bitloftlaw14_NibbleWalks.j0
      repeat' first
      | (with_reducible exact ih0 _ _ _ _)
      | (with_reducible exact bitloftref14_Bits.mono _ _)
      | (with_reducible exact bitloftref14_Node.mono _ _)
      | (with_reducible exact bitloftref14_Of.mono _ _)
      | (with_reducible exact bitloftref14_Path.mono _ _)
      | (with_reducible exact bitloftref14_Same.mono _ _ _)
      | (with_reducible exact bitloftref14_Second.mono _ _)
      | (with_reducible exact bitloftref14_Step.mono _ _ _)
      | (with_reducible exact nibble_Bits.mono _ _)
      | (with_reducible exact nibble_Node.mono _ _)
      | (with_reducible exact nibble_Of.mono _ _)
      | (with_reducible exact nibble_Path.mono _ _)
      | (with_reducible exact LeO.refl _)
      | (with_reducible exact LeO.none _)
      | (with_reducible refine LeO.ite ?_ ?_)
      | (with_reducible refine LeO.bind ?_ (fun _ => ?_))
      | exact ih0 _ _ _ _
      | exact bitloftref14_Bits.mono _ _
      | exact bitloftref14_Node.mono _ _
      | exact bitloftref14_Of.mono _ _
      | exact bitloftref14_Path.mono _ _
      | exact bitloftref14_Same.mono _ _ _
      | exact bitloftref14_Second.mono _ _
      | exact bitloftref14_Step.mono _ _ _
      | exact nibble_Bits.mono _ _
      | exact nibble_Node.mono _ _
      | exact nibble_Of.mono _ _
      | exact nibble_Path.mono _ _
      | exact LeO.none _
      | refine LeO.ite ?_ ?_
      | refine LeO.bind ?_ (fun _ => ?_)
theorem bitloftlaw14_NibbleWalks.mono : ∀ a0 a1 a2 a3 k, LeO (bitloftlaw14_NibbleWalks.f k a0 a1 a2 a3) (bitloftlaw14_NibbleWalks.f (k + 1) a0 a1 a2 a3) := by
  intro a0 a1 a2 a3 k
  have ih0 := bitloftlaw14_NibbleWalks.mono_l k
  unfold bitloftlaw14_NibbleWalks.f
  repeat' first
      | (with_reducible exact ih0 _ _ _ _)
      | (with_reducible exact bitloftref14_Bits.mono _ _)
      | (with_reducible exact bitloftref14_Node.mono _ _)
      | (with_reducible exact bitloftref14_Of.mono _ _)
      | (with_reducible exact bitloftref14_Path.mono _ _)
      | (with_reducible exact bitloftref14_Same.mono _ _ _)
      | (with_reducible exact bitloftref14_Second.mono _ _)
      | (with_reducible exact bitloftref14_Step.mono _ _ _)
      | (with_reducible exact nibble_Bits.mono _ _)
      | (with_reducible exact nibble_Node.mono _ _)
      | (with_reducible exact nibble_Of.mono _ _)
      | (with_reducible exact nibble_Path.mono _ _)
      | (with_reducible exact LeO.refl _)
      | (with_reducible exact LeO.none _)
      | (with_reducible refine LeO.ite ?_ ?_)
      | (with_reducible refine LeO.bind ?_ (fun _ => ?_))
      | exact ih0 _ _ _ _
      | exact bitloftref14_Bits.mono _ _
      | exact bitloftref14_Node.mono _ _
      | exact bitloftref14_Of.mono _ _
      | exact bitloftref14_Path.mono _ _
      | exact bitloftref14_Same.mono _ _ _
      | exact bitloftref14_Second.mono _ _
      | exact bitloftref14_Step.mono _ _ _
      | exact nibble_Bits.mono _ _
      | exact nibble_Node.mono _ _
      | exact nibble_Of.mono _ _
      | exact nibble_Path.mono _ _
      | exact LeO.none _
      | refine LeO.ite ?_ ?_
      | refine LeO.bind ?_ (fun _ => ?_)
def bitloftlaw14_NibbleWalks.T15 : Bool × List (List Nat × List Nat) := (true, [([], []), ([], []), ([0, 1], [0, 1]), ([2, 0], [2]), ([3], [3]), ([4, 3, 3], [3, 4]), ([3], [3]), ([6, 5, 3], [3, 6]), ([5, 7, 3], [3, 5, 7]), ([3, 8], [3, 8]), ([9, 7], [9]), ([10], [10]), ([10], [10]), ([11, 12, 10], [10, 11, 12]), ([10, 13], [10, 13]), ([14, 10], [14]), ([15], [15]), ([15], [15]), ([16, 17, 15], [15, 16, 17]), ([15, 18], [15, 18]), ([19, 15], [19]), ([20], [20]), ([20], [20]), ([21, 22, 20, 20], [20, 21, 22]), ([20, 23], [20, 23]), ([24, 23], [24]), ([25], [25]), ([25], [25]), ([26, 27, 25], [25, 26, 27]), ([25, 28], [25, 28]), ([29, 25], [29]), ([30], [30]), ([30], [30]), ([31, 32, 30], [30, 31, 32]), ([30, 33], [30, 33]), ([34, 30], [34]), ([35], [35]), ([35], [35]), ([36, 37, 35], [35, 36, 37]), ([35, 38], [35, 38]), ([39, 35], [39]), ([40], [40]), ([41, 40, 40], [40, 41]), ([40], [40]), ([43, 42, 40], [40, 43]), ([42, 44, 40], [40, 42, 44]), ([40, 45], [40, 45]), ([46, 44, 0, 1, 2, 3, 4, 5, 6, 7, 8, 9, 10, 11, 12, 13, 14, 15, 16, 17, 18, 19, 20, 21, 22, 23, 24, 25, 26, 27, 28, 29, 30, 31, 32, 33, 34, 35, 36, 37, 38, 39, 40, 41, 42, 43, 44, 45, 46], [46])])
def bitloftlaw14_NibbleWalks.B15 : List Nat := [0, 0, 3, 7, 15, 31, 15, 127, 255, 511, 1023, 2047, 2047, 8191, 16383, 32767, 65535, 65535, 262143, 524287, 1048575, 2097151, 2097151, 8388607, 16777215, 33554431, 67108863, 67108863, 268435455, 536870911, 1073741823, 2147483647, 2147483647, 8589934591, 17179869183, 34359738367, 68719476735, 68719476735, 274877906943, 549755813887, 1099511627775, 2199023255551, 4398046511103, 2199023255551, 17592186044415, 35184372088831, 70368744177663, 140737488355327]
theorem bitloftlaw14_NibbleWalks.tab15 : rtab .any (opsOf Try.f5 15) = bitloftlaw14_NibbleWalks.T15 := by kernel_rfl
theorem bitloftlaw14_NibbleWalks.bits15 : waitsOk bitloftlaw14_NibbleWalks.T15.2 bitloftlaw14_NibbleWalks.B15 = true := by kernel_rfl
set_option maxHeartbeats 8000000 in
set_option maxRecDepth 100000 in
theorem bitloftlaw14_NibbleWalks.calls (k : Nat) (a0_0 : Int) (a1 : Bool) (a2 : Int) (A3 : Option Addr) (c3 : Nat) (l3 : List Bool) (r : Bool) (w : World) (hr3 : Kd.C Kd.bool w A3 l3.length l3) (hc3 : l3.length ≤ c3) (h : bitloftlaw14_NibbleWalks.f k a0_0 a1 a2 l3 = some r) :
    Calls Try.prog 5 #[.agg #[.int .i64 a0_0], .bool a1, .int .u8 a2, .slice A3 l3.length c3] w fun e w' => e = .returned (.bool r) ∧ Below w.heap.size w w' := by
  have hu23 := Try.underlying23
  have HR3 := Aside0.mk hr3
  have HC3 := Aside0.mk hc3
  clear hr3 hc3
  have HB := Aside0.mk (Below.refl w.heap.size w)
  have H : (if (l3.length : Int) > 100 then (some true) else ((nibble_Step.f a0_0 a1).bind fun bt256 => ((bitloftref14_Step.f k a0_0 a1).bind fun bt261 => ((nibble_Node.f k a0_0).bind fun bt266 => ((bitloftref14_Node.f k a0_0).bind fun bt268 => (if (!(bt256.1 == bt261.1)) = true then (bitloftlaw14_NibbleWalks.j0 k a2 l3 true a0_0) else (if (bt256.2.1 != bt261.2.1) = true then (bitloftlaw14_NibbleWalks.j0 k a2 l3 true a0_0) else (if bt256.2.2.1 = bt261.2.2.1 then (if bt256.2.2.2 = bt261.2.2.2 then (if bt266.1 = bt268.1 then (bitloftlaw14_NibbleWalks.j0 k a2 l3 (bt266.2 != bt268.2) a0_0) else (bitloftlaw14_NibbleWalks.j0 k a2 l3 true a0_0)) else (bitloftlaw14_NibbleWalks.j0 k a2 l3 true a0_0)) else (bitloftlaw14_NibbleWalks.j0 k a2 l3 true a0_0))))))))) = some r := h
  clear h
  by_cases c5 : (l3.length : Int) > 100
  · rw [if_pos c5] at H
    have c5b0 : decide (100 < (l3.length : Int)) = true := decide_eq_true c5
    have c5b1 : decide (100 < l3.length) = true := decide_eq_true (by omega)
    clear c5
    obtain rfl := Option.some.inj H
    go_enter Try.func5, Try.ntmps5
    go_wp2_with (first | ((with_reducible refine gate_dst (N := 4) rfl ?_); refine box_event ?hg (N := 4) ?hd (cs := #[.int .i64 a0_0]) (t := 23) ?hr ?_; (case hd => rfl); (case hg => rfl); (case hr => first | (go_simp; done) | (go_simp; rfl)); intro gb255 hg w6 hbox hb; have n0_ := Aside0.mk (below_step (by repeat (first | (with_reducible first | exact HB.out | apply below_alloc | apply pw_below_drewN | apply below_drew1) | exact HB.out)) hb); have n1_ := Aside0.mk (hbox); have n2_ := Aside0.mk ((by rw [hg]; exact (below_size (by repeat (first | (with_reducible first | exact HB.out | apply below_alloc | apply pw_below_drewN | apply below_drew1) | exact HB.out))) : w.heap.size ≤ gb255)); have n3_ := Aside0.mk ((by rw [hg]; exact (below_size (by repeat (first | (with_reducible first | exact HB.out | apply below_alloc | apply pw_below_drewN | apply below_drew1) | exact HB.out))) : w.heap.size ≤ gb255)); clear HB; have HB := n0_; have BK255 := n1_; have GW255 := n2_; have GE255 := n3_; clear n0_ n1_ n2_ n3_; clear hb hbox hg))
    go_ret
    exact ⟨by first | rfl | (simp [errW_none, errW_some] <;> rfl) | (simp [*, errW_none, errW_some] <;> rfl), by repeat (first | (with_reducible first | exact HB.out | apply below_alloc | apply pw_below_drewN | apply below_drew1 | refine below_set ?_ GE255.out) | exact HB.out)⟩
  · rw [if_neg c5] at H
    have c5b0 : decide (100 < (l3.length : Int)) = false := decide_eq_false c5
    have c5b1 : decide (100 < l3.length) = false := decide_eq_false (by omega)
    clear c5
    replace H := Option.bind_eq_some_iff.mp H
    obtain ⟨⟨t256, t257, t258, t259⟩, A70, H⟩ := H
    replace H : ((bitloftref14_Step.f k a0_0 a1).bind fun bt261 => ((nibble_Node.f k a0_0).bind fun bt266 => ((bitloftref14_Node.f k a0_0).bind fun bt268 => (if (!(t256 == bt261.1)) = true then (bitloftlaw14_NibbleWalks.j0 k a2 l3 true a0_0) else (if (t257 != bt261.2.1) = true then (bitloftlaw14_NibbleWalks.j0 k a2 l3 true a0_0) else (if t258 = bt261.2.2.1 then (if t259 = bt261.2.2.2 then (if bt266.1 = bt268.1 then (bitloftlaw14_NibbleWalks.j0 k a2 l3 (bt266.2 != bt268.2) a0_0) else (bitloftlaw14_NibbleWalks.j0 k a2 l3 true a0_0)) else (bitloftlaw14_NibbleWalks.j0 k a2 l3 true a0_0)) else (bitloftlaw14_NibbleWalks.j0 k a2 l3 true a0_0))))))) = some r := H
    have A7 := Aside0.mk A70
    clear A70
    replace H := Option.bind_eq_some_iff.mp H
    obtain ⟨⟨t261, t262, t263, t264⟩, A80, H⟩ := H
    replace H : ((nibble_Node.f k a0_0).bind fun bt266 => ((bitloftref14_Node.f k a0_0).bind fun bt268 => (if (!(t256 == t261)) = true then (bitloftlaw14_NibbleWalks.j0 k a2 l3 true a0_0) else (if (t257 != t262) = true then (bitloftlaw14_NibbleWalks.j0 k a2 l3 true a0_0) else (if t258 = t263 then (if t259 = t264 then (if bt266.1 = bt268.1 then (bitloftlaw14_NibbleWalks.j0 k a2 l3 (bt266.2 != bt268.2) a0_0) else (bitloftlaw14_NibbleWalks.j0 k a2 l3 true a0_0)) else (bitloftlaw14_NibbleWalks.j0 k a2 l3 true a0_0)) else (bitloftlaw14_NibbleWalks.j0 k a2 l3 true a0_0)))))) = some r := H
    have A8 := Aside0.mk A80
    clear A80
    replace H := Option.bind_eq_some_iff.mp H
    obtain ⟨⟨t266, t267⟩, A90, H⟩ := H
    replace H : ((bitloftref14_Node.f k a0_0).bind fun bt268 => (if (!(t256 == t261)) = true then (bitloftlaw14_NibbleWalks.j0 k a2 l3 true a0_0) else (if (t257 != t262) = true then (bitloftlaw14_NibbleWalks.j0 k a2 l3 true a0_0) else (if t258 = t263 then (if t259 = t264 then (if t266 = bt268.1 then (bitloftlaw14_NibbleWalks.j0 k a2 l3 (t267 != bt268.2) a0_0) else (bitloftlaw14_NibbleWalks.j0 k a2 l3 true a0_0)) else (bitloftlaw14_NibbleWalks.j0 k a2 l3 true a0_0)) else (bitloftlaw14_NibbleWalks.j0 k a2 l3 true a0_0))))) = some r := H
    have A9 := Aside0.mk A90
    clear A90
    replace H := Option.bind_eq_some_iff.mp H
    obtain ⟨⟨t268, t269⟩, A100, H⟩ := H
    replace H : (if (!(t256 == t261)) = true then (bitloftlaw14_NibbleWalks.j0 k a2 l3 true a0_0) else (if (t257 != t262) = true then (bitloftlaw14_NibbleWalks.j0 k a2 l3 true a0_0) else (if t258 = t263 then (if t259 = t264 then (if t266 = t268 then (bitloftlaw14_NibbleWalks.j0 k a2 l3 (t267 != t269) a0_0) else (bitloftlaw14_NibbleWalks.j0 k a2 l3 true a0_0)) else (bitloftlaw14_NibbleWalks.j0 k a2 l3 true a0_0)) else (bitloftlaw14_NibbleWalks.j0 k a2 l3 true a0_0)))) = some r := H
    have A10 := Aside0.mk A100
    clear A100
    have HC11 := Aside0.mk H
    clear H
    go_enter Try.func5, Try.ntmps5
    go_upto_region 7 with (first | ((with_reducible refine gate_dst (N := 4) rfl ?_); refine box_event ?hg (N := 4) ?hd (cs := #[.int .i64 a0_0]) (t := 23) ?hr ?_; (case hd => rfl); (case hg => rfl); (case hr => first | (go_simp; done) | (go_simp; rfl)); intro gb255 hg w12 hbox hb; have n0_ := Aside0.mk (below_step (by repeat (first | (with_reducible first | exact HB.out | apply below_alloc | apply pw_below_drewN | apply below_drew1) | exact HB.out)) hb); have n1_ := Aside0.mk (hbox); have n2_ := Aside0.mk ((by rw [hg]; exact (below_size (by repeat (first | (with_reducible first | exact HB.out | apply below_alloc | apply pw_below_drewN | apply below_drew1) | exact HB.out))) : w.heap.size ≤ gb255)); have n3_ := Aside0.mk ((by rw [hg]; exact (below_size (by repeat (first | (with_reducible first | exact HB.out | apply below_alloc | apply pw_below_drewN | apply below_drew1) | exact HB.out))) : w.heap.size ≤ gb255)); clear HB; have HB := n0_; have BK255 := n1_; have GW255 := n2_; have GE255 := n3_; clear n0_ n1_ n2_ n3_; clear hb hbox hg; have hcz13_0 : w12.cell? ⟨gb255, 0, none⟩ = some (.int .i64 a0_0) := (blk_cell BK255.out 0).trans rfl; have hfz13_0 := blk_frozen BK255.out 0) | ((with_reducible refine gate_callee (f := 17) rfl ?_); refine goesL_ (some 39) rfl rfl Try.func17 (by kernel_rfl) rfl #[.agg #[.int .i64 a0_0], .bool a1] rfl (by (try simp only [List.map_toArray, List.map_cons, List.map_nil]); first | done | rfl | (simp only [List.length_drop, List.length_take]; rfl)) ?_; (with_reducible refine (nibble_Step.calls a0_0 a1 t256 t257 t258 t259 _ A7.out).mono ?_); rintro e w14 ⟨rfl, hb⟩; refine ⟨_, rfl, ?_⟩; have n0_ := Aside0.mk (blk_below (g := gb255) (o := .cells #[.int .i64 a0_0] 23 (0, 0)) (by (with_reducible repeat (first | refine blk_drewN ?_ _ | refine blk_drew ?_ | refine blk_alloc ?_ _)); exact BK255.out) hb); have n1_ := Aside0.mk (below_step (by repeat (first | (with_reducible first | exact HB.out | apply below_alloc | apply pw_below_drewN | apply below_drew1 | refine below_set ?_ GE255.out) | exact HB.out)) hb); clear BK255; clear HB; have BK255 := n0_; have HB := n1_; clear n0_ n1_; (try clear hb); (try clear hb2); (try clear hk); (try clear hi)) | ((with_reducible refine gate_dst (N := 9) rfl ?_); refine box_event ?hg (N := 9) ?hd (cs := #[.int .i64 0]) (t := 23) ?hr ?_; (case hd => rfl); (case hg => rfl); (case hr => first | (go_simp; done) | (go_simp; rfl)); intro gb260 hg w15 hbox hb; have n0_ := Aside0.mk (blk_below (g := gb255) (o := .cells #[.int .i64 a0_0] 23 (0, 0)) (by (with_reducible repeat (first | refine blk_drewN ?_ _ | refine blk_drew ?_ | refine blk_alloc ?_ _)); exact BK255.out) hb); have n1_ := Aside0.mk (below_step (by repeat (first | (with_reducible first | exact HB.out | apply below_alloc | apply pw_below_drewN | apply below_drew1 | refine below_set ?_ GE255.out) | exact HB.out)) hb); have n2_ := Aside0.mk (hbox); have n3_ := Aside0.mk ((by rw [hg]; exact (below_size (by repeat (first | (with_reducible first | exact HB.out | apply below_alloc | apply pw_below_drewN | apply below_drew1 | refine below_set ?_ GE255.out) | exact HB.out))) : w.heap.size ≤ gb260)); have n4_ := Aside0.mk ((by rw [hg]; exact (below_size (by repeat (first | (with_reducible first | exact HB.out | apply below_alloc | apply pw_below_drewN | apply below_drew1 | refine below_set ?_ GE255.out) | exact HB.out))) : w.heap.size ≤ gb260)); have n5_ := Aside0.mk ((by rw [hg]; exact Nat.ne_of_lt (blk_lt (g := gb255) (o := .cells #[.int .i64 a0_0] 23 (0, 0)) (by (with_reducible repeat (first | refine blk_drewN ?_ _ | refine blk_drew ?_ | refine blk_alloc ?_ _)); exact BK255.out)) : gb255 ≠ gb260)); have n6_ := Aside0.mk ((by rw [hg]; exact Nat.ne_of_gt (blk_lt (g := gb255) (o := .cells #[.int .i64 a0_0] 23 (0, 0)) (by (with_reducible repeat (first | refine blk_drewN ?_ _ | refine blk_drew ?_ | refine blk_alloc ?_ _)); exact BK255.out)) : gb260 ≠ gb255)); clear BK255; clear HB; have BK255 := n0_; have HB := n1_; have BK260 := n2_; have GW260 := n3_; have GE260 := n4_; have NB255_260 := n5_; have NB260_255 := n6_; clear n0_ n1_ n2_ n3_ n4_ n5_ n6_; clear hb hbox hg; have hnb16 := NB260_255.out; have hnc16 := NB255_260.out; have hcz17_0 : w15.cell? ⟨gb260, 0, none⟩ = some (.int .i64 0) := (blk_cell BK260.out 0).trans rfl; have hfz17_0 := blk_frozen BK260.out 0; have hcz18_0 : w15.cell? ⟨gb255, 0, none⟩ = some (.int .i64 a0_0) := (blk_cell BK255.out 0).trans rfl; have hfz18_0 := blk_frozen BK255.out 0) | ((with_reducible refine gate_callee (f := 18) rfl ?_); refine goesL_ (some 47) rfl rfl Try.func18 (by kernel_rfl) rfl #[.agg #[.int .i64 a0_0], .bool a1] rfl (by (try simp only [List.map_toArray, List.map_cons, List.map_nil]); first | done | rfl | (simp only [List.length_drop, List.length_take]; rfl)) ?_; (with_reducible refine (bitloftref14_Step.calls k a0_0 a1 t261 t262 t263 t264 _ A8.out).mono ?_); rintro e w19 ⟨rfl, hb⟩; refine ⟨_, rfl, ?_⟩; have n0_ := Aside0.mk (blk_below (g := gb255) (o := .cells #[.int .i64 a0_0] 23 (0, 0)) (by (with_reducible repeat (first | refine blk_drewN ?_ _ | refine blk_drew ?_ | refine blk_alloc ?_ _)); refine blk_far ?_ NB255_260.out _; (with_reducible repeat (first | refine blk_drewN ?_ _ | refine blk_drew ?_ | refine blk_alloc ?_ _)); exact BK255.out) hb); have n1_ := Aside0.mk (blk_below (g := gb260) (o := .cells #[.int .i64 t256] 23 (0, 0)) (by (with_reducible repeat (first | refine blk_drewN ?_ _ | refine blk_drew ?_ | refine blk_alloc ?_ _)); refine blk_put (cs := #[.int .i64 0]) ?_ 0 _ rfl; (with_reducible repeat (first | refine blk_drewN ?_ _ | refine blk_drew ?_ | refine blk_alloc ?_ _)); exact BK260.out) hb); have n2_ := Aside0.mk (below_step (by repeat (first | (with_reducible first | exact HB.out | apply below_alloc | apply pw_below_drewN | apply below_drew1 | refine below_set ?_ GE255.out | refine below_set ?_ GE260.out) | exact HB.out)) hb); clear BK255; clear BK260; clear HB; have BK255 := n0_; have BK260 := n1_; have HB := n2_; clear n0_ n1_ n2_; (try clear hb); (try clear hb2); (try clear hk); (try clear hi)) | ((with_reducible refine gate_dst (N := 13) rfl ?_); refine box_event ?hg (N := 13) ?hd (cs := #[.int .i64 0]) (t := 23) ?hr ?_; (case hd => rfl); (case hg => rfl); (case hr => first | (go_simp; done) | (go_simp; rfl)); intro gb265 hg w20 hbox hb; have n0_ := Aside0.mk (blk_below (g := gb255) (o := .cells #[.int .i64 a0_0] 23 (0, 0)) (by (with_reducible repeat (first | refine blk_drewN ?_ _ | refine blk_drew ?_ | refine blk_alloc ?_ _)); exact BK255.out) hb); have n1_ := Aside0.mk (blk_below (g := gb260) (o := .cells #[.int .i64 t256] 23 (0, 0)) (by (with_reducible repeat (first | refine blk_drewN ?_ _ | refine blk_drew ?_ | refine blk_alloc ?_ _)); exact BK260.out) hb); have n2_ := Aside0.mk (below_step (by repeat (first | (with_reducible first | exact HB.out | apply below_alloc | apply pw_below_drewN | apply below_drew1 | refine below_set ?_ GE255.out | refine below_set ?_ GE260.out) | exact HB.out)) hb); have n3_ := Aside0.mk (hbox); have n4_ := Aside0.mk ((by rw [hg]; exact (below_size (by repeat (first | (with_reducible first | exact HB.out | apply below_alloc | apply pw_below_drewN | apply below_drew1 | refine below_set ?_ GE255.out | refine below_set ?_ GE260.out) | exact HB.out))) : w.heap.size ≤ gb265)); have n5_ := Aside0.mk ((by rw [hg]; exact (below_size (by repeat (first | (with_reducible first | exact HB.out | apply below_alloc | apply pw_below_drewN | apply below_drew1 | refine below_set ?_ GE255.out | refine below_set ?_ GE260.out) | exact HB.out))) : w.heap.size ≤ gb265)); have n6_ := Aside0.mk ((by rw [hg]; exact Nat.ne_of_lt (blk_lt (g := gb255) (o := .cells #[.int .i64 a0_0] 23 (0, 0)) (by (with_reducible repeat (first | refine blk_drewN ?_ _ | refine blk_drew ?_ | refine blk_alloc ?_ _)); exact BK255.out)) : gb255 ≠ gb265)); have n7_ := Aside0.mk ((by rw [hg]; exact Nat.ne_of_gt (blk_lt (g := gb255) (o := .cells #[.int .i64 a0_0] 23 (0, 0)) (by (with_reducible repeat (first | refine blk_drewN ?_ _ | refine blk_drew ?_ | refine blk_alloc ?_ _)); exact BK255.out)) : gb265 ≠ gb255)); have n8_ := Aside0.mk ((by rw [hg]; exact Nat.ne_of_lt (blk_lt (g := gb260) (o := .cells #[.int .i64 t256] 23 (0, 0)) (by (with_reducible repeat (first | refine blk_drewN ?_ _ | refine blk_drew ?_ | refine blk_alloc ?_ _)); exact BK260.out)) : gb260 ≠ gb265)); have n9_ := Aside0.mk ((by rw [hg]; exact Nat.ne_of_gt (blk_lt (g := gb260) (o := .cells #[.int .i64 t256] 23 (0, 0)) (by (with_reducible repeat (first | refine blk_drewN ?_ _ | refine blk_drew ?_ | refine blk_alloc ?_ _)); exact BK260.out)) : gb265 ≠ gb260)); clear BK255; clear BK260; clear HB; have BK255 := n0_; have BK260 := n1_; have HB := n2_; have BK265 := n3_; have GW265 := n4_; have GE265 := n5_; have NB255_265 := n6_; have NB265_255 := n7_; have NB260_265 := n8_; have NB265_260 := n9_; clear n0_ n1_ n2_ n3_ n4_ n5_ n6_ n7_ n8_ n9_; clear hb hbox hg; have hnb21 := NB265_255.out; have hnc21 := NB255_265.out; have hnb22 := NB265_260.out; have hnc22 := NB260_265.out; have hcz23_0 : w20.cell? ⟨gb265, 0, none⟩ = some (.int .i64 0) := (blk_cell BK265.out 0).trans rfl; have hfz23_0 := blk_frozen BK265.out 0; have hcz24_0 : w20.cell? ⟨gb255, 0, none⟩ = some (.int .i64 a0_0) := (blk_cell BK255.out 0).trans rfl; have hfz24_0 := blk_frozen BK255.out 0) | ((with_reducible refine gate_callee (f := 10) rfl ?_); refine goesL_ (some 54) rfl rfl Try.func10 (by kernel_rfl) rfl #[.agg #[.int .i64 a0_0]] rfl (by (try simp only [List.map_toArray, List.map_cons, List.map_nil]); first | done | rfl | (simp only [List.length_drop, List.length_take]; rfl)) ?_; (with_reducible refine (nibble_Node.calls k a0_0 t266 t267 _ A9.out).mono ?_); rintro e w25 ⟨rfl, hb⟩; refine ⟨_, rfl, ?_⟩; have n0_ := Aside0.mk (blk_below (g := gb255) (o := .cells #[.int .i64 a0_0] 23 (0, 0)) (by (with_reducible repeat (first | refine blk_drewN ?_ _ | refine blk_drew ?_ | refine blk_alloc ?_ _)); refine blk_far ?_ NB255_265.out _; (with_reducible repeat (first | refine blk_drewN ?_ _ | refine blk_drew ?_ | refine blk_alloc ?_ _)); exact BK255.out) hb); have n1_ := Aside0.mk (blk_below (g := gb260) (o := .cells #[.int .i64 t256] 23 (0, 0)) (by (with_reducible repeat (first | refine blk_drewN ?_ _ | refine blk_drew ?_ | refine blk_alloc ?_ _)); refine blk_far ?_ NB260_265.out _; (with_reducible repeat (first | refine blk_drewN ?_ _ | refine blk_drew ?_ | refine blk_alloc ?_ _)); exact BK260.out) hb); have n2_ := Aside0.mk (blk_below (g := gb265) (o := .cells #[.int .i64 t261] 23 (0, 0)) (by (with_reducible repeat (first | refine blk_drewN ?_ _ | refine blk_drew ?_ | refine blk_alloc ?_ _)); refine blk_put (cs := #[.int .i64 0]) ?_ 0 _ rfl; (with_reducible repeat (first | refine blk_drewN ?_ _ | refine blk_drew ?_ | refine blk_alloc ?_ _)); exact BK265.out) hb); have n3_ := Aside0.mk (below_step (by repeat (first | (with_reducible first | exact HB.out | apply below_alloc | apply pw_below_drewN | apply below_drew1 | refine below_set ?_ GE255.out | refine below_set ?_ GE260.out | refine below_set ?_ GE265.out) | exact HB.out)) hb); clear BK255; clear BK260; clear BK265; clear HB; have BK255 := n0_; have BK260 := n1_; have BK265 := n2_; have HB := n3_; clear n0_ n1_ n2_ n3_; (try clear hb); (try clear hb2); (try clear hk); (try clear hi); have hcz26_0 : w25.cell? ⟨gb255, 0, none⟩ = some (.int .i64 a0_0) := (blk_cell BK255.out 0).trans rfl; have hfz26_0 := blk_frozen BK255.out 0) | ((with_reducible refine gate_callee (f := 19) rfl ?_); refine goesL_ (some 59) rfl rfl Try.func19 (by kernel_rfl) rfl #[.agg #[.int .i64 a0_0]] rfl (by (try simp only [List.map_toArray, List.map_cons, List.map_nil]); first | done | rfl | (simp only [List.length_drop, List.length_take]; rfl)) ?_; (with_reducible refine (bitloftref14_Node.calls k a0_0 t268 t269 _ A10.out).mono ?_); rintro e w27 ⟨rfl, hb⟩; refine ⟨_, rfl, ?_⟩; have n0_ := Aside0.mk (blk_below (g := gb255) (o := .cells #[.int .i64 a0_0] 23 (0, 0)) (by (with_reducible repeat (first | refine blk_drewN ?_ _ | refine blk_drew ?_ | refine blk_alloc ?_ _)); exact BK255.out) hb); have n1_ := Aside0.mk (blk_below (g := gb260) (o := .cells #[.int .i64 t256] 23 (0, 0)) (by (with_reducible repeat (first | refine blk_drewN ?_ _ | refine blk_drew ?_ | refine blk_alloc ?_ _)); exact BK260.out) hb); have n2_ := Aside0.mk (blk_below (g := gb265) (o := .cells #[.int .i64 t261] 23 (0, 0)) (by (with_reducible repeat (first | refine blk_drewN ?_ _ | refine blk_drew ?_ | refine blk_alloc ?_ _)); exact BK265.out) hb); have n3_ := Aside0.mk (below_step (by repeat (first | (with_reducible first | exact HB.out | apply below_alloc | apply pw_below_drewN | apply below_drew1 | refine below_set ?_ GE255.out | refine below_set ?_ GE260.out | refine below_set ?_ GE265.out) | exact HB.out)) hb); clear BK255; clear BK260; clear BK265; clear HB; have BK255 := n0_; have BK260 := n1_; have BK265 := n2_; have HB := n3_; clear n0_ n1_ n2_ n3_; (try clear hb); (try clear hb2); (try clear hk); (try clear hi)))
    (try simp only [Act.put, List.setIfInBounds_toArray, List.set_cons_zero, List.set_cons_succ])
    go_cut [89] (fun v89 wc => ∃ (kq : Nat) (x89_10 : Bool), v89 = .bool x89_10 ∧ Aside0 (bitloftlaw14_NibbleWalks.j0 kq a2 l3 x89_10 a0_0 = some r) ∧ Aside0 (kq ≤ k) ∧ Aside0 (wc.heap[gb255]? = some (.cells #[.int .i64 a0_0] 23 (0, 0))) ∧ Aside0 (wc.heap[gb260]? = some (.cells #[.int .i64 t256] 23 (0, 0))) ∧ Aside0 (wc.heap[gb265]? = some (.cells #[.int .i64 t261] 23 (0, 0))) ∧ Aside0 (Below w.heap.size w wc))
    case first =>
      have H := HC11.out
      clear HC11
      by_cases c28 : (!(t256 == t261)) = true
      · rw [if_pos c28] at H
        have c28b0 : (!(t256 == t261)) = true := c28
        clear c28
        (first | rw [c28b0] | (simp only [i64_w, i32_w]; rw [c28b0]) | skip)
        have H' := Aside0.mk H
        clear H
        have hnb29 := NB260_255.out
        have hnc29 := NB255_260.out
        have hnb30 := NB260_265.out
        have hnc30 := NB265_260.out
        have hcz31_0 : w27.cell? ⟨gb260, 0, none⟩ = some (.int .i64 t256) := (blk_cell BK260.out 0).trans rfl
        have hfz31_0 := blk_frozen BK260.out 0
        have hnb32 := NB265_255.out
        have hnc32 := NB255_265.out
        have hcz33_0 : w27.cell? ⟨gb265, 0, none⟩ = some (.int .i64 t261) := (blk_cell BK265.out 0).trans rfl
        have hfz33_0 := blk_frozen BK265.out 0
        go_wp2
        go_meet
        case rel => exact ⟨_, (true), (by first | rfl | (simp; done) | (simp [*]; done)), H', ⟨by first | omega | exact Nat.le_refl _⟩, ⟨by (with_reducible repeat (first | refine blk_drewN ?_ _ | refine blk_drew ?_ | refine blk_alloc ?_ _)); exact BK255.out⟩, ⟨by (with_reducible repeat (first | refine blk_drewN ?_ _ | refine blk_drew ?_ | refine blk_alloc ?_ _)); exact BK260.out⟩, ⟨by (with_reducible repeat (first | refine blk_drewN ?_ _ | refine blk_drew ?_ | refine blk_alloc ?_ _)); exact BK265.out⟩, ⟨by repeat (first | (with_reducible first | exact HB.out | apply below_alloc | apply pw_below_drewN | apply below_drew1 | refine below_set ?_ GE255.out | refine below_set ?_ GE260.out | refine below_set ?_ GE265.out) | exact HB.out)⟩⟩
      · rw [if_neg c28] at H
        have c28b0 : (!(t256 == t261)) = false := by simpa using c28
        clear c28
        (first | rw [c28b0] | (simp only [i64_w, i32_w]; rw [c28b0]) | skip)
        by_cases c34 : (t257 != t262) = true
        · rw [if_pos c34] at H
          have c34b0 : (t257 != t262) = true := c34
          (try (have c34b1 : decide (t257 = t262) = false := by simpa using c34))
          (try (have c34b2 : (t257 == t262) = false := by simpa using c34))
          (try (have c34b3 : ¬ (t257 = t262) := by simpa using c34))
          clear c34
          have H' := Aside0.mk H
          clear H
          have hnb35 := NB260_255.out
          have hnc35 := NB255_260.out
          have hnb36 := NB260_265.out
          have hnc36 := NB265_260.out
          have hcz37_0 : w27.cell? ⟨gb260, 0, none⟩ = some (.int .i64 t256) := (blk_cell BK260.out 0).trans rfl
          have hfz37_0 := blk_frozen BK260.out 0
          have hnb38 := NB265_255.out
          have hnc38 := NB255_265.out
          have hcz39_0 : w27.cell? ⟨gb265, 0, none⟩ = some (.int .i64 t261) := (blk_cell BK265.out 0).trans rfl
          have hfz39_0 := blk_frozen BK265.out 0
          go_wp2
          go_meet
          case rel => exact ⟨_, (true), (by first | rfl | (simp; done) | (simp [*]; done)), H', ⟨by first | omega | exact Nat.le_refl _⟩, ⟨by (with_reducible repeat (first | refine blk_drewN ?_ _ | refine blk_drew ?_ | refine blk_alloc ?_ _)); exact BK255.out⟩, ⟨by (with_reducible repeat (first | refine blk_drewN ?_ _ | refine blk_drew ?_ | refine blk_alloc ?_ _)); exact BK260.out⟩, ⟨by (with_reducible repeat (first | refine blk_drewN ?_ _ | refine blk_drew ?_ | refine blk_alloc ?_ _)); exact BK265.out⟩, ⟨by repeat (first | (with_reducible first | exact HB.out | apply below_alloc | apply pw_below_drewN | apply below_drew1 | refine below_set ?_ GE255.out | refine below_set ?_ GE260.out | refine below_set ?_ GE265.out) | exact HB.out)⟩⟩
        · rw [if_neg c34] at H
          have c34b0 : (t257 != t262) = false := by simpa using c34
          (try (have c34b1 : decide (t257 = t262) = true := by simpa using c34))
          (try (have c34b2 : (t257 == t262) = true := by simpa using c34))
          clear c34
          by_cases c40 : t258 = t263
          · rw [if_pos c40] at H
            have c40b0 : (t258 == t263) = true := beq_iff_eq.mpr c40
            have c40b1 : (t258 != t263) = false := bne_eq_false_iff_eq.mpr c40
            clear c40
            by_cases c41 : t259 = t264
            · rw [if_pos c41] at H
              have c41b0 : (t259 == t264) = true := beq_iff_eq.mpr c41
              have c41b1 : (t259 != t264) = false := bne_eq_false_iff_eq.mpr c41
              clear c41
              by_cases c42 : t266 = t268
              · rw [if_pos c42] at H
                have c42b0 : (t266 == t268) = true := beq_iff_eq.mpr c42
                have c42b1 : (t266 != t268) = false := bne_eq_false_iff_eq.mpr c42
                clear c42
                have H' := Aside0.mk H
                clear H
                have hnb43 := NB260_255.out
                have hnc43 := NB255_260.out
                have hnb44 := NB260_265.out
                have hnc44 := NB265_260.out
                have hcz45_0 : w27.cell? ⟨gb260, 0, none⟩ = some (.int .i64 t256) := (blk_cell BK260.out 0).trans rfl
                have hfz45_0 := blk_frozen BK260.out 0
                have hnb46 := NB265_255.out
                have hnc46 := NB255_265.out
                have hcz47_0 : w27.cell? ⟨gb265, 0, none⟩ = some (.int .i64 t261) := (blk_cell BK265.out 0).trans rfl
                have hfz47_0 := blk_frozen BK265.out 0
                go_wp2
                go_meet
                case rel => exact ⟨_, ((t267 != t269)), (by first | rfl | (simp; done) | (simp [*]; done)), H', ⟨by first | omega | exact Nat.le_refl _⟩, ⟨by (with_reducible repeat (first | refine blk_drewN ?_ _ | refine blk_drew ?_ | refine blk_alloc ?_ _)); exact BK255.out⟩, ⟨by (with_reducible repeat (first | refine blk_drewN ?_ _ | refine blk_drew ?_ | refine blk_alloc ?_ _)); exact BK260.out⟩, ⟨by (with_reducible repeat (first | refine blk_drewN ?_ _ | refine blk_drew ?_ | refine blk_alloc ?_ _)); exact BK265.out⟩, ⟨by repeat (first | (with_reducible first | exact HB.out | apply below_alloc | apply pw_below_drewN | apply below_drew1 | refine below_set ?_ GE255.out | refine below_set ?_ GE260.out | refine below_set ?_ GE265.out) | exact HB.out)⟩⟩
              · rw [if_neg c42] at H
                have c42b0 : (t266 == t268) = false := beq_eq_false_iff_ne.mpr c42
                have c42b1 : (t266 != t268) = true := bne_iff_ne.mpr c42
                have H' := Aside0.mk H
                clear H
                have hnb48 := NB260_255.out
                have hnc48 := NB255_260.out
                have hnb49 := NB260_265.out
                have hnc49 := NB265_260.out
                have hcz50_0 : w27.cell? ⟨gb260, 0, none⟩ = some (.int .i64 t256) := (blk_cell BK260.out 0).trans rfl
                have hfz50_0 := blk_frozen BK260.out 0
                have hnb51 := NB265_255.out
                have hnc51 := NB255_265.out
                have hcz52_0 : w27.cell? ⟨gb265, 0, none⟩ = some (.int .i64 t261) := (blk_cell BK265.out 0).trans rfl
                have hfz52_0 := blk_frozen BK265.out 0
                go_wp2
                go_meet
                case rel => exact ⟨_, (true), (by first | rfl | (simp; done) | (simp [*]; done)), H', ⟨by first | omega | exact Nat.le_refl _⟩, ⟨by (with_reducible repeat (first | refine blk_drewN ?_ _ | refine blk_drew ?_ | refine blk_alloc ?_ _)); exact BK255.out⟩, ⟨by (with_reducible repeat (first | refine blk_drewN ?_ _ | refine blk_drew ?_ | refine blk_alloc ?_ _)); exact BK260.out⟩, ⟨by (with_reducible repeat (first | refine blk_drewN ?_ _ | refine blk_drew ?_ | refine blk_alloc ?_ _)); exact BK265.out⟩, ⟨by repeat (first | (with_reducible first | exact HB.out | apply below_alloc | apply pw_below_drewN | apply below_drew1 | refine below_set ?_ GE255.out | refine below_set ?_ GE260.out | refine below_set ?_ GE265.out) | exact HB.out)⟩⟩
            · rw [if_neg c41] at H
              have c41b0 : (t259 == t264) = false := beq_eq_false_iff_ne.mpr c41
              have c41b1 : (t259 != t264) = true := bne_iff_ne.mpr c41
              have H' := Aside0.mk H
              clear H
              have hnb53 := NB260_255.out
              have hnc53 := NB255_260.out
              have hnb54 := NB260_265.out
              have hnc54 := NB265_260.out
              have hcz55_0 : w27.cell? ⟨gb260, 0, none⟩ = some (.int .i64 t256) := (blk_cell BK260.out 0).trans rfl
              have hfz55_0 := blk_frozen BK260.out 0
              have hnb56 := NB265_255.out
              have hnc56 := NB255_265.out
              have hcz57_0 : w27.cell? ⟨gb265, 0, none⟩ = some (.int .i64 t261) := (blk_cell BK265.out 0).trans rfl
              have hfz57_0 := blk_frozen BK265.out 0
              go_wp2
              go_meet
              case rel => exact ⟨_, (true), (by first | rfl | (simp; done) | (simp [*]; done)), H', ⟨by first | omega | exact Nat.le_refl _⟩, ⟨by (with_reducible repeat (first | refine blk_drewN ?_ _ | refine blk_drew ?_ | refine blk_alloc ?_ _)); exact BK255.out⟩, ⟨by (with_reducible repeat (first | refine blk_drewN ?_ _ | refine blk_drew ?_ | refine blk_alloc ?_ _)); exact BK260.out⟩, ⟨by (with_reducible repeat (first | refine blk_drewN ?_ _ | refine blk_drew ?_ | refine blk_alloc ?_ _)); exact BK265.out⟩, ⟨by repeat (first | (with_reducible first | exact HB.out | apply below_alloc | apply pw_below_drewN | apply below_drew1 | refine below_set ?_ GE255.out | refine below_set ?_ GE260.out | refine below_set ?_ GE265.out) | exact HB.out)⟩⟩
          · rw [if_neg c40] at H
            have c40b0 : (t258 == t263) = false := beq_eq_false_iff_ne.mpr c40
            have c40b1 : (t258 != t263) = true := bne_iff_ne.mpr c40
            have H' := Aside0.mk H
            clear H
            have hnb58 := NB260_255.out
            have hnc58 := NB255_260.out
            have hnb59 := NB260_265.out
            have hnc59 := NB265_260.out
            have hcz60_0 : w27.cell? ⟨gb260, 0, none⟩ = some (.int .i64 t256) := (blk_cell BK260.out 0).trans rfl
            have hfz60_0 := blk_frozen BK260.out 0
            have hnb61 := NB265_255.out
            have hnc61 := NB255_265.out
            have hcz62_0 : w27.cell? ⟨gb265, 0, none⟩ = some (.int .i64 t261) := (blk_cell BK265.out 0).trans rfl
            have hfz62_0 := blk_frozen BK265.out 0
            go_wp2
            go_meet
            case rel => exact ⟨_, (true), (by first | rfl | (simp; done) | (simp [*]; done)), H', ⟨by first | omega | exact Nat.le_refl _⟩, ⟨by (with_reducible repeat (first | refine blk_drewN ?_ _ | refine blk_drew ?_ | refine blk_alloc ?_ _)); exact BK255.out⟩, ⟨by (with_reducible repeat (first | refine blk_drewN ?_ _ | refine blk_drew ?_ | refine blk_alloc ?_ _)); exact BK260.out⟩, ⟨by (with_reducible repeat (first | refine blk_drewN ?_ _ | refine blk_drew ?_ | refine blk_alloc ?_ _)); exact BK265.out⟩, ⟨by repeat (first | (with_reducible first | exact HB.out | apply below_alloc | apply pw_below_drewN | apply below_drew1 | refine below_set ?_ GE255.out | refine below_set ?_ GE260.out | refine below_set ?_ GE265.out) | exact HB.out)⟩⟩
    case rest =>
      clear HC11
      try clear c1
      try clear c2
      try clear p2
      try clear c3
      try clear c4
      try clear c5
      try clear c5b0
      try clear c5b1
      try clear c6
      try clear c10
      try clear c16
      try clear c17
      try clear c18
      try clear c19
      try clear c21
      try clear c22
      try clear c28
      try clear c28b0
      try clear c29
      try clear c30
      try clear c32
      try clear c34
      try clear c34b0
      try clear c34b1
      try clear c34b2
      try clear c35
      try clear c36
      try clear c38
      try clear c40
      try clear c40b0
      try clear c40b1
      try clear c41
      try clear c41b0
      try clear c41b1
      try clear c42
      try clear c42b0
      try clear c42b1
      try clear c43
      try clear c44
      try clear c46
      try clear c48
      try clear c49
      try clear c51
      try clear c53
      try clear c54
      try clear c56
      try clear c58
      try clear c59
      try clear c61
      try clear hcz13_0
      try clear hcz17_0
      try clear hcz18_0
      try clear hcz23_0
      try clear hcz24_0
      try clear hcz26_0
      try clear hcz31_0
      try clear hcz33_0
      try clear hcz37_0
      try clear hcz39_0
      try clear hcz45_0
      try clear hcz47_0
      try clear hcz50_0
      try clear hcz52_0
      try clear hcz55_0
      try clear hcz57_0
      try clear hcz60_0
      try clear hcz62_0
      try clear hfz13_0
      try clear hfz17_0
      try clear hfz18_0
      try clear hfz23_0
      try clear hfz24_0
      try clear hfz26_0
      try clear hfz31_0
      try clear hfz33_0
      try clear hfz37_0
      try clear hfz39_0
      try clear hfz45_0
      try clear hfz47_0
      try clear hfz50_0
      try clear hfz52_0
      try clear hfz55_0
      try clear hfz57_0
      try clear hfz60_0
      try clear hfz62_0
      obtain ⟨kq, x89_10, rfl, HA, HJ10, BK255, BK260, BK265, HB⟩ := hcut
      cases kq with
      | zero => exact absurd HA.out (by simp [bitloftlaw14_NibbleWalks.j0])
      | succ kj10 =>
        have H := HA.out
        clear HA
        simp only [bitloftlaw14_NibbleWalks.j0] at H
        by_cases c63 : x89_10 = true
        · subst c63
          have H1 : (none) = some r := by rw [if_pos rfl] at H; exact H
          clear H
          have H := H1
          clear H1
          exact absurd H (by simp)
        · replace c63 := Bool.eq_false_iff.mpr c63
          subst c63
          have H1 : ((nibble_Second.f a0_0).bind fun bt270 => ((bitloftref14_Second.f kj10 a0_0).bind fun bt272 => ((nibble_Bits.f kj10 a0_0).bind fun bt274 => ((bitloftref14_Bits.f kj10 a0_0).bind fun bt278 => ((nibble_Of.f kj10 l3).bind fun bt282 => ((bitloftref14_Of.f kj10 l3).bind fun bt285 => ((nibble_New.f).bind fun t288 => (if (t288 == 1) = true then ((nibble_Check.f a0_0).bind fun t289 => ((bitloftref14_Check.f a0_0).bind fun t290 => (if t289 = t290 then (if (bt270.1 == bt272.1) = true then (if bt270.2 = bt272.2 then ((bitloftref14_Same.f kj10 bt274.1 bt278.1).bind fun t291 => (if t291 = true then (if bt274.2 = bt278.2 then (if (bt282.1 == bt285.1) = true then (if bt282.2 = bt285.2 then ((nibble_Path.f kj10 a2).bind fun bt292 => ((bitloftref14_Path.f kj10 a2).bind fun bt300 => (some (bt292.1 == bt300.1 && (bt292.2.1 == bt300.2.1 && (bt292.2.2.1 == bt300.2.2.1 && (bt292.2.2.2.1 == bt300.2.2.2.1 && (bt292.2.2.2.2.1 == bt300.2.2.2.2.1 && (bt292.2.2.2.2.2.1 == bt300.2.2.2.2.2.1 && (bt292.2.2.2.2.2.2.1 == bt300.2.2.2.2.2.2.1 && (bt292.2.2.2.2.2.2.2 == bt300.2.2.2.2.2.2.2))))))))))) else (none)) else (none)) else (none)) else (none))) else (none)) else (none)) else (none)))) else (none))))))))) = some r := by rw [if_neg (show ¬ (false = true) by decide)] at H; exact H
          clear H
          have H := H1
          clear H1
          replace H := Option.bind_eq_some_iff.mp H
          obtain ⟨⟨t270, t271⟩, A640, H⟩ := H
          replace H : ((bitloftref14_Second.f kj10 a0_0).bind fun bt272 => ((nibble_Bits.f kj10 a0_0).bind fun bt274 => ((bitloftref14_Bits.f kj10 a0_0).bind fun bt278 => ((nibble_Of.f kj10 l3).bind fun bt282 => ((bitloftref14_Of.f kj10 l3).bind fun bt285 => ((nibble_New.f).bind fun t288 => (if (t288 == 1) = true then ((nibble_Check.f a0_0).bind fun t289 => ((bitloftref14_Check.f a0_0).bind fun t290 => (if t289 = t290 then (if (t270 == bt272.1) = true then (if t271 = bt272.2 then ((bitloftref14_Same.f kj10 bt274.1 bt278.1).bind fun t291 => (if t291 = true then (if bt274.2 = bt278.2 then (if (bt282.1 == bt285.1) = true then (if bt282.2 = bt285.2 then ((nibble_Path.f kj10 a2).bind fun bt292 => ((bitloftref14_Path.f kj10 a2).bind fun bt300 => (some (bt292.1 == bt300.1 && (bt292.2.1 == bt300.2.1 && (bt292.2.2.1 == bt300.2.2.1 && (bt292.2.2.2.1 == bt300.2.2.2.1 && (bt292.2.2.2.2.1 == bt300.2.2.2.2.1 && (bt292.2.2.2.2.2.1 == bt300.2.2.2.2.2.1 && (bt292.2.2.2.2.2.2.1 == bt300.2.2.2.2.2.2.1 && (bt292.2.2.2.2.2.2.2 == bt300.2.2.2.2.2.2.2))))))))))) else (none)) else (none)) else (none)) else (none))) else (none)) else (none)) else (none)))) else (none)))))))) = some r := H
          have A64 := Aside0.mk A640
          clear A640
          replace H := Option.bind_eq_some_iff.mp H
          obtain ⟨⟨t272, t273⟩, A650, H⟩ := H
          replace H : ((nibble_Bits.f kj10 a0_0).bind fun bt274 => ((bitloftref14_Bits.f kj10 a0_0).bind fun bt278 => ((nibble_Of.f kj10 l3).bind fun bt282 => ((bitloftref14_Of.f kj10 l3).bind fun bt285 => ((nibble_New.f).bind fun t288 => (if (t288 == 1) = true then ((nibble_Check.f a0_0).bind fun t289 => ((bitloftref14_Check.f a0_0).bind fun t290 => (if t289 = t290 then (if (t270 == t272) = true then (if t271 = t273 then ((bitloftref14_Same.f kj10 bt274.1 bt278.1).bind fun t291 => (if t291 = true then (if bt274.2 = bt278.2 then (if (bt282.1 == bt285.1) = true then (if bt282.2 = bt285.2 then ((nibble_Path.f kj10 a2).bind fun bt292 => ((bitloftref14_Path.f kj10 a2).bind fun bt300 => (some (bt292.1 == bt300.1 && (bt292.2.1 == bt300.2.1 && (bt292.2.2.1 == bt300.2.2.1 && (bt292.2.2.2.1 == bt300.2.2.2.1 && (bt292.2.2.2.2.1 == bt300.2.2.2.2.1 && (bt292.2.2.2.2.2.1 == bt300.2.2.2.2.2.1 && (bt292.2.2.2.2.2.2.1 == bt300.2.2.2.2.2.2.1 && (bt292.2.2.2.2.2.2.2 == bt300.2.2.2.2.2.2.2))))))))))) else (none)) else (none)) else (none)) else (none))) else (none)) else (none)) else (none)))) else (none))))))) = some r := H
          have A65 := Aside0.mk A650
          clear A650
          replace H := Option.bind_eq_some_iff.mp H
          obtain ⟨⟨t274, t277⟩, A660, H⟩ := H
          replace H : ((bitloftref14_Bits.f kj10 a0_0).bind fun bt278 => ((nibble_Of.f kj10 l3).bind fun bt282 => ((bitloftref14_Of.f kj10 l3).bind fun bt285 => ((nibble_New.f).bind fun t288 => (if (t288 == 1) = true then ((nibble_Check.f a0_0).bind fun t289 => ((bitloftref14_Check.f a0_0).bind fun t290 => (if t289 = t290 then (if (t270 == t272) = true then (if t271 = t273 then ((bitloftref14_Same.f kj10 t274 bt278.1).bind fun t291 => (if t291 = true then (if t277 = bt278.2 then (if (bt282.1 == bt285.1) = true then (if bt282.2 = bt285.2 then ((nibble_Path.f kj10 a2).bind fun bt292 => ((bitloftref14_Path.f kj10 a2).bind fun bt300 => (some (bt292.1 == bt300.1 && (bt292.2.1 == bt300.2.1 && (bt292.2.2.1 == bt300.2.2.1 && (bt292.2.2.2.1 == bt300.2.2.2.1 && (bt292.2.2.2.2.1 == bt300.2.2.2.2.1 && (bt292.2.2.2.2.2.1 == bt300.2.2.2.2.2.1 && (bt292.2.2.2.2.2.2.1 == bt300.2.2.2.2.2.2.1 && (bt292.2.2.2.2.2.2.2 == bt300.2.2.2.2.2.2.2))))))))))) else (none)) else (none)) else (none)) else (none))) else (none)) else (none)) else (none)))) else (none)))))) = some r := H
          have A66 := Aside0.mk A660
          clear A660
          replace H := Option.bind_eq_some_iff.mp H
          obtain ⟨⟨t278, t281⟩, A670, H⟩ := H
          replace H : ((nibble_Of.f kj10 l3).bind fun bt282 => ((bitloftref14_Of.f kj10 l3).bind fun bt285 => ((nibble_New.f).bind fun t288 => (if (t288 == 1) = true then ((nibble_Check.f a0_0).bind fun t289 => ((bitloftref14_Check.f a0_0).bind fun t290 => (if t289 = t290 then (if (t270 == t272) = true then (if t271 = t273 then ((bitloftref14_Same.f kj10 t274 t278).bind fun t291 => (if t291 = true then (if t277 = t281 then (if (bt282.1 == bt285.1) = true then (if bt282.2 = bt285.2 then ((nibble_Path.f kj10 a2).bind fun bt292 => ((bitloftref14_Path.f kj10 a2).bind fun bt300 => (some (bt292.1 == bt300.1 && (bt292.2.1 == bt300.2.1 && (bt292.2.2.1 == bt300.2.2.1 && (bt292.2.2.2.1 == bt300.2.2.2.1 && (bt292.2.2.2.2.1 == bt300.2.2.2.2.1 && (bt292.2.2.2.2.2.1 == bt300.2.2.2.2.2.1 && (bt292.2.2.2.2.2.2.1 == bt300.2.2.2.2.2.2.1 && (bt292.2.2.2.2.2.2.2 == bt300.2.2.2.2.2.2.2))))))))))) else (none)) else (none)) else (none)) else (none))) else (none)) else (none)) else (none)))) else (none))))) = some r := H
          have A67 := Aside0.mk A670
          clear A670
          replace H := Option.bind_eq_some_iff.mp H
          obtain ⟨⟨t282, t283⟩, A680, H⟩ := H
          replace H : ((bitloftref14_Of.f kj10 l3).bind fun bt285 => ((nibble_New.f).bind fun t288 => (if (t288 == 1) = true then ((nibble_Check.f a0_0).bind fun t289 => ((bitloftref14_Check.f a0_0).bind fun t290 => (if t289 = t290 then (if (t270 == t272) = true then (if t271 = t273 then ((bitloftref14_Same.f kj10 t274 t278).bind fun t291 => (if t291 = true then (if t277 = t281 then (if (t282 == bt285.1) = true then (if t283 = bt285.2 then ((nibble_Path.f kj10 a2).bind fun bt292 => ((bitloftref14_Path.f kj10 a2).bind fun bt300 => (some (bt292.1 == bt300.1 && (bt292.2.1 == bt300.2.1 && (bt292.2.2.1 == bt300.2.2.1 && (bt292.2.2.2.1 == bt300.2.2.2.1 && (bt292.2.2.2.2.1 == bt300.2.2.2.2.1 && (bt292.2.2.2.2.2.1 == bt300.2.2.2.2.2.1 && (bt292.2.2.2.2.2.2.1 == bt300.2.2.2.2.2.2.1 && (bt292.2.2.2.2.2.2.2 == bt300.2.2.2.2.2.2.2))))))))))) else (none)) else (none)) else (none)) else (none))) else (none)) else (none)) else (none)))) else (none)))) = some r := H
          have A68 := Aside0.mk A680
          clear A680
          replace H := Option.bind_eq_some_iff.mp H
          obtain ⟨⟨t285, t286⟩, A690, H⟩ := H
          replace H : ((nibble_New.f).bind fun t288 => (if (t288 == 1) = true then ((nibble_Check.f a0_0).bind fun t289 => ((bitloftref14_Check.f a0_0).bind fun t290 => (if t289 = t290 then (if (t270 == t272) = true then (if t271 = t273 then ((bitloftref14_Same.f kj10 t274 t278).bind fun t291 => (if t291 = true then (if t277 = t281 then (if (t282 == t285) = true then (if t283 = t286 then ((nibble_Path.f kj10 a2).bind fun bt292 => ((bitloftref14_Path.f kj10 a2).bind fun bt300 => (some (bt292.1 == bt300.1 && (bt292.2.1 == bt300.2.1 && (bt292.2.2.1 == bt300.2.2.1 && (bt292.2.2.2.1 == bt300.2.2.2.1 && (bt292.2.2.2.2.1 == bt300.2.2.2.2.1 && (bt292.2.2.2.2.2.1 == bt300.2.2.2.2.2.1 && (bt292.2.2.2.2.2.2.1 == bt300.2.2.2.2.2.2.1 && (bt292.2.2.2.2.2.2.2 == bt300.2.2.2.2.2.2.2))))))))))) else (none)) else (none)) else (none)) else (none))) else (none)) else (none)) else (none)))) else (none))) = some r := H
          have A69 := Aside0.mk A690
          clear A690
          replace H := Option.bind_eq_some_iff.mp H
          obtain ⟨t288, A700, H⟩ := H
          replace H : (if (t288 == 1) = true then ((nibble_Check.f a0_0).bind fun t289 => ((bitloftref14_Check.f a0_0).bind fun t290 => (if t289 = t290 then (if (t270 == t272) = true then (if t271 = t273 then ((bitloftref14_Same.f kj10 t274 t278).bind fun t291 => (if t291 = true then (if t277 = t281 then (if (t282 == t285) = true then (if t283 = t286 then ((nibble_Path.f kj10 a2).bind fun bt292 => ((bitloftref14_Path.f kj10 a2).bind fun bt300 => (some (bt292.1 == bt300.1 && (bt292.2.1 == bt300.2.1 && (bt292.2.2.1 == bt300.2.2.1 && (bt292.2.2.2.1 == bt300.2.2.2.1 && (bt292.2.2.2.2.1 == bt300.2.2.2.2.1 && (bt292.2.2.2.2.2.1 == bt300.2.2.2.2.2.1 && (bt292.2.2.2.2.2.2.1 == bt300.2.2.2.2.2.2.1 && (bt292.2.2.2.2.2.2.2 == bt300.2.2.2.2.2.2.2))))))))))) else (none)) else (none)) else (none)) else (none))) else (none)) else (none)) else (none)))) else (none)) = some r := H
          have A70 := Aside0.mk A700
          clear A700
          by_cases c71 : (t288 == 1) = true
          · rw [if_pos c71] at H
            have c71b0 : (t288 == 1) = true := c71
            (try (have c71b1 : decide (t288 = 1) = true := by simpa using c71))
            (try (have c71b2 : (t288 == 1) = true := by simpa using c71))
            clear c71
            replace H := Option.bind_eq_some_iff.mp H
            obtain ⟨t289, A720, H⟩ := H
            replace H : ((bitloftref14_Check.f a0_0).bind fun t290 => (if t289 = t290 then (if (t270 == t272) = true then (if t271 = t273 then ((bitloftref14_Same.f kj10 t274 t278).bind fun t291 => (if t291 = true then (if t277 = t281 then (if (t282 == t285) = true then (if t283 = t286 then ((nibble_Path.f kj10 a2).bind fun bt292 => ((bitloftref14_Path.f kj10 a2).bind fun bt300 => (some (bt292.1 == bt300.1 && (bt292.2.1 == bt300.2.1 && (bt292.2.2.1 == bt300.2.2.1 && (bt292.2.2.2.1 == bt300.2.2.2.1 && (bt292.2.2.2.2.1 == bt300.2.2.2.2.1 && (bt292.2.2.2.2.2.1 == bt300.2.2.2.2.2.1 && (bt292.2.2.2.2.2.2.1 == bt300.2.2.2.2.2.2.1 && (bt292.2.2.2.2.2.2.2 == bt300.2.2.2.2.2.2.2))))))))))) else (none)) else (none)) else (none)) else (none))) else (none)) else (none)) else (none))) = some r := H
            have A72 := Aside0.mk A720
            clear A720
            replace H := Option.bind_eq_some_iff.mp H
            obtain ⟨t290, A730, H⟩ := H
            replace H : (if t289 = t290 then (if (t270 == t272) = true then (if t271 = t273 then ((bitloftref14_Same.f kj10 t274 t278).bind fun t291 => (if t291 = true then (if t277 = t281 then (if (t282 == t285) = true then (if t283 = t286 then ((nibble_Path.f kj10 a2).bind fun bt292 => ((bitloftref14_Path.f kj10 a2).bind fun bt300 => (some (bt292.1 == bt300.1 && (bt292.2.1 == bt300.2.1 && (bt292.2.2.1 == bt300.2.2.1 && (bt292.2.2.2.1 == bt300.2.2.2.1 && (bt292.2.2.2.2.1 == bt300.2.2.2.2.1 && (bt292.2.2.2.2.2.1 == bt300.2.2.2.2.2.1 && (bt292.2.2.2.2.2.2.1 == bt300.2.2.2.2.2.2.1 && (bt292.2.2.2.2.2.2.2 == bt300.2.2.2.2.2.2.2))))))))))) else (none)) else (none)) else (none)) else (none))) else (none)) else (none)) else (none)) = some r := H
            have A73 := Aside0.mk A730
            clear A730
            by_cases c74 : t289 = t290
            · rw [if_pos c74] at H
              have c74b0 : (t289 == t290) = true := beq_iff_eq.mpr c74
              have c74b1 : (t289 != t290) = false := bne_eq_false_iff_eq.mpr c74
              clear c74
              by_cases c75 : (t270 == t272) = true
              · rw [if_pos c75] at H
                have c75b0 : (t270 == t272) = true := c75
                (try (have c75b1 : decide (t270 = t272) = true := by simpa using c75))
                (try (have c75b2 : (t270 == t272) = true := by simpa using c75))
                clear c75
                by_cases c76 : t271 = t273
                · rw [if_pos c76] at H
                  have c76b0 : (t271 == t273) = true := beq_iff_eq.mpr c76
                  have c76b1 : (t271 != t273) = false := bne_eq_false_iff_eq.mpr c76
                  clear c76
                  replace H := Option.bind_eq_some_iff.mp H
                  obtain ⟨t291, A770, H⟩ := H
                  replace H : (if t291 = true then (if t277 = t281 then (if (t282 == t285) = true then (if t283 = t286 then ((nibble_Path.f kj10 a2).bind fun bt292 => ((bitloftref14_Path.f kj10 a2).bind fun bt300 => (some (bt292.1 == bt300.1 && (bt292.2.1 == bt300.2.1 && (bt292.2.2.1 == bt300.2.2.1 && (bt292.2.2.2.1 == bt300.2.2.2.1 && (bt292.2.2.2.2.1 == bt300.2.2.2.2.1 && (bt292.2.2.2.2.2.1 == bt300.2.2.2.2.2.1 && (bt292.2.2.2.2.2.2.1 == bt300.2.2.2.2.2.2.1 && (bt292.2.2.2.2.2.2.2 == bt300.2.2.2.2.2.2.2))))))))))) else (none)) else (none)) else (none)) else (none)) = some r := H
                  have A77 := Aside0.mk A770
                  clear A770
                  by_cases c78 : t291 = true
                  · subst c78
                    have H1 : (if t277 = t281 then (if (t282 == t285) = true then (if t283 = t286 then ((nibble_Path.f kj10 a2).bind fun bt292 => ((bitloftref14_Path.f kj10 a2).bind fun bt300 => (some (bt292.1 == bt300.1 && (bt292.2.1 == bt300.2.1 && (bt292.2.2.1 == bt300.2.2.1 && (bt292.2.2.2.1 == bt300.2.2.2.1 && (bt292.2.2.2.2.1 == bt300.2.2.2.2.1 && (bt292.2.2.2.2.2.1 == bt300.2.2.2.2.2.1 && (bt292.2.2.2.2.2.2.1 == bt300.2.2.2.2.2.2.1 && (bt292.2.2.2.2.2.2.2 == bt300.2.2.2.2.2.2.2))))))))))) else (none)) else (none)) else (none)) = some r := by rw [if_pos rfl] at H; exact H
                    clear H
                    have H := H1
                    clear H1
                    by_cases c79 : t277 = t281
                    · rw [if_pos c79] at H
                      have c79b0 : (t277 == t281) = true := beq_iff_eq.mpr c79
                      have c79b1 : (t277 != t281) = false := bne_eq_false_iff_eq.mpr c79
                      clear c79
                      by_cases c80 : (t282 == t285) = true
                      · rw [if_pos c80] at H
                        have c80b0 : (t282 == t285) = true := c80
                        (try (have c80b1 : decide (t282 = t285) = true := by simpa using c80))
                        (try (have c80b2 : (t282 == t285) = true := by simpa using c80))
                        clear c80
                        by_cases c81 : t283 = t286
                        · rw [if_pos c81] at H
                          have c81b0 : (t283 == t286) = true := beq_iff_eq.mpr c81
                          have c81b1 : (t283 != t286) = false := bne_eq_false_iff_eq.mpr c81
                          clear c81
                          replace H := Option.bind_eq_some_iff.mp H
                          obtain ⟨⟨t292, t293, t294, t295, t296, t297, t298, t299⟩, A820, H⟩ := H
                          replace H : ((bitloftref14_Path.f kj10 a2).bind fun bt300 => (some (t292 == bt300.1 && (t293 == bt300.2.1 && (t294 == bt300.2.2.1 && (t295 == bt300.2.2.2.1 && (t296 == bt300.2.2.2.2.1 && (t297 == bt300.2.2.2.2.2.1 && (t298 == bt300.2.2.2.2.2.2.1 && (t299 == bt300.2.2.2.2.2.2.2)))))))))) = some r := H
                          have A82 := Aside0.mk A820
                          clear A820
                          replace H := Option.bind_eq_some_iff.mp H
                          obtain ⟨⟨t300, t301, t302, t303, t304, t305, t306, t307⟩, A830, H⟩ := H
                          replace H : (some (t292 == t300 && (t293 == t301 && (t294 == t302 && (t295 == t303 && (t296 == t304 && (t297 == t305 && (t298 == t306 && (t299 == t307))))))))) = some r := H
                          have A83 := Aside0.mk A830
                          clear A830
                          obtain rfl := Option.some.inj H
                          have hnb84 := NB255_260.out
                          have hnc84 := NB260_255.out
                          have hnb85 := NB255_265.out
                          have hnc85 := NB265_255.out
                          have hcz86_0 : wc.cell? ⟨gb255, 0, none⟩ = some (.int .i64 a0_0) := (blk_cell BK255.out 0).trans rfl
                          have hfz86_0 := blk_frozen BK255.out 0
                          try go_wp2_with (first | ((with_reducible refine gate_callee (f := 11) rfl ?_); refine goesL_ (some 92) rfl rfl Try.func11 (by kernel_rfl) rfl #[.agg #[.int .i64 a0_0]] rfl (by (try simp only [List.map_toArray, List.map_cons, List.map_nil]); first | done | rfl | (simp only [List.length_drop, List.length_take]; rfl)) ?_; (with_reducible refine (nibble_Second.calls a0_0 t270 t271 _ A64.out).mono ?_); rintro e w87 ⟨rfl, hb⟩; refine ⟨_, rfl, ?_⟩; have n0_ := Aside0.mk (blk_below (g := gb255) (o := .cells #[.int .i64 a0_0] 23 (0, 0)) (by (with_reducible repeat (first | refine blk_drewN ?_ _ | refine blk_drew ?_ | refine blk_alloc ?_ _)); exact BK255.out) hb); have n1_ := Aside0.mk (blk_below (g := gb260) (o := .cells #[.int .i64 t256] 23 (0, 0)) (by (with_reducible repeat (first | refine blk_drewN ?_ _ | refine blk_drew ?_ | refine blk_alloc ?_ _)); exact BK260.out) hb); have n2_ := Aside0.mk (blk_below (g := gb265) (o := .cells #[.int .i64 t261] 23 (0, 0)) (by (with_reducible repeat (first | refine blk_drewN ?_ _ | refine blk_drew ?_ | refine blk_alloc ?_ _)); exact BK265.out) hb); have n3_ := Aside0.mk (below_step (by repeat (first | (with_reducible first | exact HB.out | apply below_alloc | apply pw_below_drewN | apply below_drew1 | refine below_set ?_ GE255.out | refine below_set ?_ GE260.out | refine below_set ?_ GE265.out) | exact HB.out)) hb); clear BK255; clear BK260; clear BK265; clear HB; have BK255 := n0_; have BK260 := n1_; have BK265 := n2_; have HB := n3_; clear n0_ n1_ n2_ n3_; (try clear hb); (try clear hb2); (try clear hk); (try clear hi); have hcz88_0 : w87.cell? ⟨gb255, 0, none⟩ = some (.int .i64 a0_0) := (blk_cell BK255.out 0).trans rfl; have hfz88_0 := blk_frozen BK255.out 0) | ((with_reducible refine gate_callee (f := 20) rfl ?_); refine goesL_ (some 97) rfl rfl Try.func20 (by kernel_rfl) rfl #[.agg #[.int .i64 a0_0]] rfl (by (try simp only [List.map_toArray, List.map_cons, List.map_nil]); first | done | rfl | (simp only [List.length_drop, List.length_take]; rfl)) ?_; (with_reducible refine (bitloftref14_Second.calls kj10 a0_0 t272 t273 _ A65.out).mono ?_); rintro e w89 ⟨rfl, hb⟩; refine ⟨_, rfl, ?_⟩; have n0_ := Aside0.mk (blk_below (g := gb255) (o := .cells #[.int .i64 a0_0] 23 (0, 0)) (by (with_reducible repeat (first | refine blk_drewN ?_ _ | refine blk_drew ?_ | refine blk_alloc ?_ _)); exact BK255.out) hb); have n1_ := Aside0.mk (blk_below (g := gb260) (o := .cells #[.int .i64 t256] 23 (0, 0)) (by (with_reducible repeat (first | refine blk_drewN ?_ _ | refine blk_drew ?_ | refine blk_alloc ?_ _)); exact BK260.out) hb); have n2_ := Aside0.mk (blk_below (g := gb265) (o := .cells #[.int .i64 t261] 23 (0, 0)) (by (with_reducible repeat (first | refine blk_drewN ?_ _ | refine blk_drew ?_ | refine blk_alloc ?_ _)); exact BK265.out) hb); have n3_ := Aside0.mk (below_step (by repeat (first | (with_reducible first | exact HB.out | apply below_alloc | apply pw_below_drewN | apply below_drew1 | refine below_set ?_ GE255.out | refine below_set ?_ GE260.out | refine below_set ?_ GE265.out) | exact HB.out)) hb); clear BK255; clear BK260; clear BK265; clear HB; have BK255 := n0_; have BK260 := n1_; have BK265 := n2_; have HB := n3_; clear n0_ n1_ n2_ n3_; (try clear hb); (try clear hb2); (try clear hk); (try clear hi); have hcz90_0 : w89.cell? ⟨gb255, 0, none⟩ = some (.int .i64 a0_0) := (blk_cell BK255.out 0).trans rfl; have hfz90_0 := blk_frozen BK255.out 0) | ((with_reducible refine gate_callee (f := 12) rfl ?_); refine goesL_ (some 102) rfl rfl Try.func12 (by kernel_rfl) rfl #[.agg #[.int .i64 a0_0]] rfl (by (try simp only [List.map_toArray, List.map_cons, List.map_nil]); first | done | rfl | (simp only [List.length_drop, List.length_take]; rfl)) ?_; (with_reducible refine (nibble_Bits.calls kj10 a0_0 t274 t277 _ A66.out).mono ?_); rintro e w91 ⟨v275, rfl, ho0, hb⟩; refine ⟨_, rfl, ?_⟩; have n0_ := Aside0.mk (Kd.R_lower ho0 (below_size (by repeat (first | (with_reducible first | exact HB.out | apply below_alloc | apply pw_below_drewN | apply below_drew1 | refine below_set ?_ GE255.out | refine below_set ?_ GE260.out | refine below_set ?_ GE265.out) | exact HB.out)))); have n1_ := Aside0.mk (blk_below (g := gb255) (o := .cells #[.int .i64 a0_0] 23 (0, 0)) (by (with_reducible repeat (first | refine blk_drewN ?_ _ | refine blk_drew ?_ | refine blk_alloc ?_ _)); exact BK255.out) hb); have n2_ := Aside0.mk (blk_below (g := gb260) (o := .cells #[.int .i64 t256] 23 (0, 0)) (by (with_reducible repeat (first | refine blk_drewN ?_ _ | refine blk_drew ?_ | refine blk_alloc ?_ _)); exact BK260.out) hb); have n3_ := Aside0.mk (blk_below (g := gb265) (o := .cells #[.int .i64 t261] 23 (0, 0)) (by (with_reducible repeat (first | refine blk_drewN ?_ _ | refine blk_drew ?_ | refine blk_alloc ?_ _)); exact BK265.out) hb); have n4_ := Aside0.mk (below_step (by repeat (first | (with_reducible first | exact HB.out | apply below_alloc | apply pw_below_drewN | apply below_drew1 | refine below_set ?_ GE255.out | refine below_set ?_ GE260.out | refine below_set ?_ GE265.out) | exact HB.out)) hb); clear BK255; clear BK260; clear BK265; clear HB; have HO276 := n0_; have BK255 := n1_; have BK260 := n2_; have BK265 := n3_; have HB := n4_; clear n0_ n1_ n2_ n3_ n4_; (try clear hb); (try clear hb2); (try clear hk); (try clear hi); (try clear ho0); have hcz92_0 : w91.cell? ⟨gb255, 0, none⟩ = some (.int .i64 a0_0) := (blk_cell BK255.out 0).trans rfl; have hfz92_0 := blk_frozen BK255.out 0) | ((with_reducible refine gate_callee (f := 21) rfl ?_); refine goesL_ (some 107) rfl rfl Try.func21 (by kernel_rfl) rfl #[.agg #[.int .i64 a0_0]] rfl (by (try simp only [List.map_toArray, List.map_cons, List.map_nil]); first | done | rfl | (simp only [List.length_drop, List.length_take]; rfl)) ?_; (with_reducible refine (bitloftref14_Bits.calls kj10 a0_0 t278 t281 _ A67.out).mono ?_); rintro e w93 ⟨v279, rfl, ho0, hb⟩; refine ⟨_, rfl, ?_⟩; have n0_ := Aside0.mk (Kd.R_elder' (by (with_reducible repeat (first | apply Kd.R_alloc | apply Kd.R_drewN | apply Kd.R_drew)); exact HO276.out) (Kd.R_base ho0) hb); have n1_ := Aside0.mk (Kd.R_lower (Kd.R_new' ho0 (Kd.R_lt (by (with_reducible repeat (first | apply Kd.R_alloc | apply Kd.R_drewN | apply Kd.R_drew)); exact HO276.out))) (below_size (by repeat (first | (with_reducible first | exact HB.out | apply below_alloc | apply pw_below_drewN | apply below_drew1 | refine below_set ?_ GE255.out | refine below_set ?_ GE260.out | refine below_set ?_ GE265.out) | exact HB.out)))); have n2_ := Aside0.mk (blk_below (g := gb255) (o := .cells #[.int .i64 a0_0] 23 (0, 0)) (by (with_reducible repeat (first | refine blk_drewN ?_ _ | refine blk_drew ?_ | refine blk_alloc ?_ _)); exact BK255.out) hb); have n3_ := Aside0.mk (blk_below (g := gb260) (o := .cells #[.int .i64 t256] 23 (0, 0)) (by (with_reducible repeat (first | refine blk_drewN ?_ _ | refine blk_drew ?_ | refine blk_alloc ?_ _)); exact BK260.out) hb); have n4_ := Aside0.mk (blk_below (g := gb265) (o := .cells #[.int .i64 t261] 23 (0, 0)) (by (with_reducible repeat (first | refine blk_drewN ?_ _ | refine blk_drew ?_ | refine blk_alloc ?_ _)); exact BK265.out) hb); have n5_ := Aside0.mk (below_step (by repeat (first | (with_reducible first | exact HB.out | apply below_alloc | apply pw_below_drewN | apply below_drew1 | refine below_set ?_ GE255.out | refine below_set ?_ GE260.out | refine below_set ?_ GE265.out) | exact HB.out)) hb); clear HO276; clear BK255; clear BK260; clear BK265; clear HB; have HO276 := n0_; have HO280 := n1_; have BK255 := n2_; have BK260 := n3_; have BK265 := n4_; have HB := n5_; clear n0_ n1_ n2_ n3_ n4_ n5_; (try clear hb); (try clear hb2); (try clear hk); (try clear hi); (try clear ho0)) | ((with_reducible refine gate_callee (f := 22) rfl ?_); refine goesL_ (some 112) rfl rfl Try.func22 (by kernel_rfl) rfl #[.slice A3 l3.length c3] rfl (by (try simp only [List.map_toArray, List.map_cons, List.map_nil]); first | done | rfl | (simp only [List.length_drop, List.length_take]; rfl)) ?_; (with_reducible refine (nibble_Of.calls kj10 _ _ l3 t282 t283 _ ?side1 ?side2 A68.out).mono ?_); (case side1 => repeat (first | exact (Kd.C_below HR3.out HB.out) | (with_reducible refine Kd.C_alloc ?_ _) | (with_reducible refine Kd.C_drewN ?_ _) | (with_reducible refine Kd.C_drew ?_))); (case side2 => exact HC3.out); rintro e w94 ⟨rfl, hb⟩; refine ⟨_, rfl, ?_⟩; have n0_ := Aside0.mk (Kd.R_below (by (with_reducible repeat (first | apply Kd.R_alloc | apply Kd.R_drewN | apply Kd.R_drew)); exact HO276.out) hb); have n1_ := Aside0.mk (Kd.R_below (by (with_reducible repeat (first | apply Kd.R_alloc | apply Kd.R_drewN | apply Kd.R_drew)); exact HO280.out) hb); have n2_ := Aside0.mk (blk_below (g := gb255) (o := .cells #[.int .i64 a0_0] 23 (0, 0)) (by (with_reducible repeat (first | refine blk_drewN ?_ _ | refine blk_drew ?_ | refine blk_alloc ?_ _)); exact BK255.out) hb); have n3_ := Aside0.mk (blk_below (g := gb260) (o := .cells #[.int .i64 t256] 23 (0, 0)) (by (with_reducible repeat (first | refine blk_drewN ?_ _ | refine blk_drew ?_ | refine blk_alloc ?_ _)); exact BK260.out) hb); have n4_ := Aside0.mk (blk_below (g := gb265) (o := .cells #[.int .i64 t261] 23 (0, 0)) (by (with_reducible repeat (first | refine blk_drewN ?_ _ | refine blk_drew ?_ | refine blk_alloc ?_ _)); exact BK265.out) hb); have n5_ := Aside0.mk (below_step (by repeat (first | (with_reducible first | exact HB.out | apply below_alloc | apply pw_below_drewN | apply below_drew1 | refine below_set ?_ GE255.out | refine below_set ?_ GE260.out | refine below_set ?_ GE265.out) | exact HB.out)) hb); clear HO276; clear HO280; clear BK255; clear BK260; clear BK265; clear HB; have HO276 := n0_; have HO280 := n1_; have BK255 := n2_; have BK260 := n3_; have BK265 := n4_; have HB := n5_; clear n0_ n1_ n2_ n3_ n4_ n5_; (try clear hb); (try clear hb2); (try clear hk); (try clear hi)) | ((with_reducible refine gate_dst (N := 29) rfl ?_); refine box_event ?hg (N := 29) ?hd (cs := #[.int .i64 0]) (t := 23) ?hr ?_; (case hd => rfl); (case hg => rfl); (case hr => first | (go_simp; done) | (go_simp; rfl)); intro gb284 hg w95 hbox hb; have n0_ := Aside0.mk (Kd.R_below (by (with_reducible repeat (first | apply Kd.R_alloc | apply Kd.R_drewN | apply Kd.R_drew)); exact HO276.out) hb); have n1_ := Aside0.mk (Kd.R_below (by (with_reducible repeat (first | apply Kd.R_alloc | apply Kd.R_drewN | apply Kd.R_drew)); exact HO280.out) hb); have n2_ := Aside0.mk (blk_below (g := gb255) (o := .cells #[.int .i64 a0_0] 23 (0, 0)) (by (with_reducible repeat (first | refine blk_drewN ?_ _ | refine blk_drew ?_ | refine blk_alloc ?_ _)); exact BK255.out) hb); have n3_ := Aside0.mk (blk_below (g := gb260) (o := .cells #[.int .i64 t256] 23 (0, 0)) (by (with_reducible repeat (first | refine blk_drewN ?_ _ | refine blk_drew ?_ | refine blk_alloc ?_ _)); exact BK260.out) hb); have n4_ := Aside0.mk (blk_below (g := gb265) (o := .cells #[.int .i64 t261] 23 (0, 0)) (by (with_reducible repeat (first | refine blk_drewN ?_ _ | refine blk_drew ?_ | refine blk_alloc ?_ _)); exact BK265.out) hb); have n5_ := Aside0.mk (below_step (by repeat (first | (with_reducible first | exact HB.out | apply below_alloc | apply pw_below_drewN | apply below_drew1 | refine below_set ?_ GE255.out | refine below_set ?_ GE260.out | refine below_set ?_ GE265.out) | exact HB.out)) hb); have n6_ := Aside0.mk (hbox); have n7_ := Aside0.mk ((by rw [hg]; exact (below_size (by repeat (first | (with_reducible first | exact HB.out | apply below_alloc | apply pw_below_drewN | apply below_drew1 | refine below_set ?_ GE255.out | refine below_set ?_ GE260.out | refine below_set ?_ GE265.out) | exact HB.out))) : w.heap.size ≤ gb284)); have n8_ := Aside0.mk ((by rw [hg]; exact (below_size (by repeat (first | (with_reducible first | exact HB.out | apply below_alloc | apply pw_below_drewN | apply below_drew1 | refine below_set ?_ GE255.out | refine below_set ?_ GE260.out | refine below_set ?_ GE265.out) | exact HB.out))) : w.heap.size ≤ gb284)); have n9_ := Aside0.mk ((by rw [hg]; exact Nat.ne_of_lt (blk_lt (g := gb255) (o := .cells #[.int .i64 a0_0] 23 (0, 0)) (by (with_reducible repeat (first | refine blk_drewN ?_ _ | refine blk_drew ?_ | refine blk_alloc ?_ _)); exact BK255.out)) : gb255 ≠ gb284)); have n10_ := Aside0.mk ((by rw [hg]; exact Nat.ne_of_gt (blk_lt (g := gb255) (o := .cells #[.int .i64 a0_0] 23 (0, 0)) (by (with_reducible repeat (first | refine blk_drewN ?_ _ | refine blk_drew ?_ | refine blk_alloc ?_ _)); exact BK255.out)) : gb284 ≠ gb255)); have n11_ := Aside0.mk ((by rw [hg]; exact Nat.ne_of_lt (blk_lt (g := gb260) (o := .cells #[.int .i64 t256] 23 (0, 0)) (by (with_reducible repeat (first | refine blk_drewN ?_ _ | refine blk_drew ?_ | refine blk_alloc ?_ _)); exact BK260.out)) : gb260 ≠ gb284)); have n12_ := Aside0.mk ((by rw [hg]; exact Nat.ne_of_gt (blk_lt (g := gb260) (o := .cells #[.int .i64 t256] 23 (0, 0)) (by (with_reducible repeat (first | refine blk_drewN ?_ _ | refine blk_drew ?_ | refine blk_alloc ?_ _)); exact BK260.out)) : gb284 ≠ gb260)); have n13_ := Aside0.mk ((by rw [hg]; exact Nat.ne_of_lt (blk_lt (g := gb265) (o := .cells #[.int .i64 t261] 23 (0, 0)) (by (with_reducible repeat (first | refine blk_drewN ?_ _ | refine blk_drew ?_ | refine blk_alloc ?_ _)); exact BK265.out)) : gb265 ≠ gb284)); have n14_ := Aside0.mk ((by rw [hg]; exact Nat.ne_of_gt (blk_lt (g := gb265) (o := .cells #[.int .i64 t261] 23 (0, 0)) (by (with_reducible repeat (first | refine blk_drewN ?_ _ | refine blk_drew ?_ | refine blk_alloc ?_ _)); exact BK265.out)) : gb284 ≠ gb265)); clear HO276; clear HO280; clear BK255; clear BK260; clear BK265; clear HB; have HO276 := n0_; have HO280 := n1_; have BK255 := n2_; have BK260 := n3_; have BK265 := n4_; have HB := n5_; have BK284 := n6_; have GW284 := n7_; have GE284 := n8_; have NB255_284 := n9_; have NB284_255 := n10_; have NB260_284 := n11_; have NB284_260 := n12_; have NB265_284 := n13_; have NB284_265 := n14_; clear n0_ n1_ n2_ n3_ n4_ n5_ n6_ n7_ n8_ n9_ n10_ n11_ n12_ n13_ n14_; clear hb hbox hg; have hnb96 := NB284_255.out; have hnc96 := NB255_284.out; have hnb97 := NB284_260.out; have hnc97 := NB260_284.out; have hnb98 := NB284_265.out; have hnc98 := NB265_284.out; have hcz99_0 : w95.cell? ⟨gb284, 0, none⟩ = some (.int .i64 0) := (blk_cell BK284.out 0).trans rfl; have hfz99_0 := blk_frozen BK284.out 0) | ((with_reducible refine gate_callee (f := 23) rfl ?_); refine goesL_ (some 117) rfl rfl Try.func23 (by kernel_rfl) rfl #[.slice A3 l3.length c3] rfl (by (try simp only [List.map_toArray, List.map_cons, List.map_nil]); first | done | rfl | (simp only [List.length_drop, List.length_take]; rfl)) ?_; (with_reducible refine (bitloftref14_Of.calls kj10 _ _ l3 t285 t286 _ ?side1 ?side2 A69.out).mono ?_); (case side1 => exact Kd.C_below HR3.out (by repeat (first | (with_reducible first | exact HB.out | apply below_alloc | apply pw_below_drewN | apply below_drew1 | refine below_set ?_ GE255.out | refine below_set ?_ GE260.out | refine below_set ?_ GE265.out | refine below_set ?_ GE284.out) | exact HB.out))); (case side2 => exact HC3.out); rintro e w100 ⟨rfl, hb⟩; refine ⟨_, rfl, ?_⟩; have n0_ := Aside0.mk (Kd.R_below (by (with_reducible repeat (first | apply Kd.R_alloc | apply Kd.R_drewN | apply Kd.R_drew)); exact (Kd.R_mono (Kd.R_far (p := ⟨gb284, 0, none⟩) (Kd.R_types HO276.out BK284.out (by decide)) (fun _ hk => hk.2) (.int .i64 t282)) (fun _ h_ => h_.1))) hb); have n1_ := Aside0.mk (Kd.R_below (by (with_reducible repeat (first | apply Kd.R_alloc | apply Kd.R_drewN | apply Kd.R_drew)); exact (Kd.R_mono (Kd.R_far (p := ⟨gb284, 0, none⟩) (Kd.R_types HO280.out BK284.out (by decide)) (fun _ hk => hk.2) (.int .i64 t282)) (fun _ h_ => h_.1))) hb); have n2_ := Aside0.mk (blk_below (g := gb255) (o := .cells #[.int .i64 a0_0] 23 (0, 0)) (by (with_reducible repeat (first | refine blk_drewN ?_ _ | refine blk_drew ?_ | refine blk_alloc ?_ _)); refine blk_far ?_ NB255_284.out _; (with_reducible repeat (first | refine blk_drewN ?_ _ | refine blk_drew ?_ | refine blk_alloc ?_ _)); exact BK255.out) hb); have n3_ := Aside0.mk (blk_below (g := gb260) (o := .cells #[.int .i64 t256] 23 (0, 0)) (by (with_reducible repeat (first | refine blk_drewN ?_ _ | refine blk_drew ?_ | refine blk_alloc ?_ _)); refine blk_far ?_ NB260_284.out _; (with_reducible repeat (first | refine blk_drewN ?_ _ | refine blk_drew ?_ | refine blk_alloc ?_ _)); exact BK260.out) hb); have n4_ := Aside0.mk (blk_below (g := gb265) (o := .cells #[.int .i64 t261] 23 (0, 0)) (by (with_reducible repeat (first | refine blk_drewN ?_ _ | refine blk_drew ?_ | refine blk_alloc ?_ _)); refine blk_far ?_ NB265_284.out _; (with_reducible repeat (first | refine blk_drewN ?_ _ | refine blk_drew ?_ | refine blk_alloc ?_ _)); exact BK265.out) hb); have n5_ := Aside0.mk (blk_below (g := gb284) (o := .cells #[.int .i64 t282] 23 (0, 0)) (by (with_reducible repeat (first | refine blk_drewN ?_ _ | refine blk_drew ?_ | refine blk_alloc ?_ _)); refine blk_put (cs := #[.int .i64 0]) ?_ 0 _ rfl; (with_reducible repeat (first | refine blk_drewN ?_ _ | refine blk_drew ?_ | refine blk_alloc ?_ _)); exact BK284.out) hb); have n6_ := Aside0.mk (below_step (by repeat (first | (with_reducible first | exact HB.out | apply below_alloc | apply pw_below_drewN | apply below_drew1 | refine below_set ?_ GE255.out | refine below_set ?_ GE260.out | refine below_set ?_ GE265.out | refine below_set ?_ GE284.out) | exact HB.out)) hb); clear HO276; clear HO280; clear BK255; clear BK260; clear BK265; clear BK284; clear HB; have HO276 := n0_; have HO280 := n1_; have BK255 := n2_; have BK260 := n3_; have BK265 := n4_; have BK284 := n5_; have HB := n6_; clear n0_ n1_ n2_ n3_ n4_ n5_ n6_; (try clear hb); (try clear hb2); (try clear hk); (try clear hi)) | ((with_reducible refine gate_dst (N := 31) rfl ?_); refine box_event ?hg (N := 31) ?hd (cs := #[.int .i64 0]) (t := 23) ?hr ?_; (case hd => rfl); (case hg => rfl); (case hr => first | (go_simp; done) | (go_simp; rfl)); intro gb287 hg w101 hbox hb; have n0_ := Aside0.mk (Kd.R_below (by (with_reducible repeat (first | apply Kd.R_alloc | apply Kd.R_drewN | apply Kd.R_drew)); exact HO276.out) hb); have n1_ := Aside0.mk (Kd.R_below (by (with_reducible repeat (first | apply Kd.R_alloc | apply Kd.R_drewN | apply Kd.R_drew)); exact HO280.out) hb); have n2_ := Aside0.mk (blk_below (g := gb255) (o := .cells #[.int .i64 a0_0] 23 (0, 0)) (by (with_reducible repeat (first | refine blk_drewN ?_ _ | refine blk_drew ?_ | refine blk_alloc ?_ _)); exact BK255.out) hb); have n3_ := Aside0.mk (blk_below (g := gb260) (o := .cells #[.int .i64 t256] 23 (0, 0)) (by (with_reducible repeat (first | refine blk_drewN ?_ _ | refine blk_drew ?_ | refine blk_alloc ?_ _)); exact BK260.out) hb); have n4_ := Aside0.mk (blk_below (g := gb265) (o := .cells #[.int .i64 t261] 23 (0, 0)) (by (with_reducible repeat (first | refine blk_drewN ?_ _ | refine blk_drew ?_ | refine blk_alloc ?_ _)); exact BK265.out) hb); have n5_ := Aside0.mk (blk_below (g := gb284) (o := .cells #[.int .i64 t282] 23 (0, 0)) (by (with_reducible repeat (first | refine blk_drewN ?_ _ | refine blk_drew ?_ | refine blk_alloc ?_ _)); exact BK284.out) hb); have n6_ := Aside0.mk (below_step (by repeat (first | (with_reducible first | exact HB.out | apply below_alloc | apply pw_below_drewN | apply below_drew1 | refine below_set ?_ GE255.out | refine below_set ?_ GE260.out | refine below_set ?_ GE265.out | refine below_set ?_ GE284.out) | exact HB.out)) hb); have n7_ := Aside0.mk (hbox); have n8_ := Aside0.mk ((by rw [hg]; exact (below_size (by repeat (first | (with_reducible first | exact HB.out | apply below_alloc | apply pw_below_drewN | apply below_drew1 | refine below_set ?_ GE255.out | refine below_set ?_ GE260.out | refine below_set ?_ GE265.out | refine below_set ?_ GE284.out) | exact HB.out))) : w.heap.size ≤ gb287)); have n9_ := Aside0.mk ((by rw [hg]; exact (below_size (by repeat (first | (with_reducible first | exact HB.out | apply below_alloc | apply pw_below_drewN | apply below_drew1 | refine below_set ?_ GE255.out | refine below_set ?_ GE260.out | refine below_set ?_ GE265.out | refine below_set ?_ GE284.out) | exact HB.out))) : w.heap.size ≤ gb287)); have n10_ := Aside0.mk ((by rw [hg]; exact Nat.ne_of_lt (blk_lt (g := gb255) (o := .cells #[.int .i64 a0_0] 23 (0, 0)) (by (with_reducible repeat (first | refine blk_drewN ?_ _ | refine blk_drew ?_ | refine blk_alloc ?_ _)); exact BK255.out)) : gb255 ≠ gb287)); have n11_ := Aside0.mk ((by rw [hg]; exact Nat.ne_of_gt (blk_lt (g := gb255) (o := .cells #[.int .i64 a0_0] 23 (0, 0)) (by (with_reducible repeat (first | refine blk_drewN ?_ _ | refine blk_drew ?_ | refine blk_alloc ?_ _)); exact BK255.out)) : gb287 ≠ gb255)); have n12_ := Aside0.mk ((by rw [hg]; exact Nat.ne_of_lt (blk_lt (g := gb260) (o := .cells #[.int .i64 t256] 23 (0, 0)) (by (with_reducible repeat (first | refine blk_drewN ?_ _ | refine blk_drew ?_ | refine blk_alloc ?_ _)); exact BK260.out)) : gb260 ≠ gb287)); have n13_ := Aside0.mk ((by rw [hg]; exact Nat.ne_of_gt (blk_lt (g := gb260) (o := .cells #[.int .i64 t256] 23 (0, 0)) (by (with_reducible repeat (first | refine blk_drewN ?_ _ | refine blk_drew ?_ | refine blk_alloc ?_ _)); exact BK260.out)) : gb287 ≠ gb260)); have n14_ := Aside0.mk ((by rw [hg]; exact Nat.ne_of_lt (blk_lt (g := gb265) (o := .cells #[.int .i64 t261] 23 (0, 0)) (by (with_reducible repeat (first | refine blk_drewN ?_ _ | refine blk_drew ?_ | refine blk_alloc ?_ _)); exact BK265.out)) : gb265 ≠ gb287)); have n15_ := Aside0.mk ((by rw [hg]; exact Nat.ne_of_gt (blk_lt (g := gb265) (o := .cells #[.int .i64 t261] 23 (0, 0)) (by (with_reducible repeat (first | refine blk_drewN ?_ _ | refine blk_drew ?_ | refine blk_alloc ?_ _)); exact BK265.out)) : gb287 ≠ gb265)); have n16_ := Aside0.mk ((by rw [hg]; exact Nat.ne_of_lt (blk_lt (g := gb284) (o := .cells #[.int .i64 t282] 23 (0, 0)) (by (with_reducible repeat (first | refine blk_drewN ?_ _ | refine blk_drew ?_ | refine blk_alloc ?_ _)); exact BK284.out)) : gb284 ≠ gb287)); have n17_ := Aside0.mk ((by rw [hg]; exact Nat.ne_of_gt (blk_lt (g := gb284) (o := .cells #[.int .i64 t282] 23 (0, 0)) (by (with_reducible repeat (first | refine blk_drewN ?_ _ | refine blk_drew ?_ | refine blk_alloc ?_ _)); exact BK284.out)) : gb287 ≠ gb284)); clear HO276; clear HO280; clear BK255; clear BK260; clear BK265; clear BK284; clear HB; have HO276 := n0_; have HO280 := n1_; have BK255 := n2_; have BK260 := n3_; have BK265 := n4_; have BK284 := n5_; have HB := n6_; have BK287 := n7_; have GW287 := n8_; have GE287 := n9_; have NB255_287 := n10_; have NB287_255 := n11_; have NB260_287 := n12_; have NB287_260 := n13_; have NB265_287 := n14_; have NB287_265 := n15_; have NB284_287 := n16_; have NB287_284 := n17_; clear n0_ n1_ n2_ n3_ n4_ n5_ n6_ n7_ n8_ n9_ n10_ n11_ n12_ n13_ n14_ n15_ n16_ n17_; clear hb hbox hg; have hnb102 := NB287_255.out; have hnc102 := NB255_287.out; have hnb103 := NB287_260.out; have hnc103 := NB260_287.out; have hnb104 := NB287_265.out; have hnc104 := NB265_287.out; have hnb105 := NB287_284.out; have hnc105 := NB284_287.out; have hcz106_0 : w101.cell? ⟨gb287, 0, none⟩ = some (.int .i64 0) := (blk_cell BK287.out 0).trans rfl; have hfz106_0 := blk_frozen BK287.out 0))
                          have n0_ : Aside0 (Kd.R Kd.bool 4 (w101.setCell ⟨gb287, 0, none⟩ (.int .i64 t285)) w.heap.size (fun k_ => some k_ ≠ (v279 : Value).ownBlock) v275 t274) := ⟨by (with_reducible repeat (first | apply Kd.R_alloc | apply Kd.R_drewN | apply Kd.R_drew)); exact Kd.R_mono (Kd.R_far (p := ⟨gb287, 0, none⟩) (Kd.R_types HO276.out BK287.out (by decide)) (fun _ hk => hk.2) (.int .i64 t285)) (fun _ hk => hk.1.2)⟩
                          have n1_ : Aside0 (Kd.R Kd.bool 4 (w101.setCell ⟨gb287, 0, none⟩ (.int .i64 t285)) w.heap.size (fun k_ => some k_ ≠ (v275 : Value).ownBlock) v279 t278) := ⟨by (with_reducible repeat (first | apply Kd.R_alloc | apply Kd.R_drewN | apply Kd.R_drew)); exact Kd.R_mono (Kd.R_far (p := ⟨gb287, 0, none⟩) (Kd.R_types HO280.out BK287.out (by decide)) (fun _ hk => hk.2) (.int .i64 t285)) (fun _ hk => hk.1.2)⟩
                          have n2_ : Aside0 ((w101.setCell ⟨gb287, 0, none⟩ (.int .i64 t285)).heap[gb255]? = some (.cells #[.int .i64 a0_0] 23 (0, 0))) := ⟨by (with_reducible repeat (first | refine blk_drewN ?_ _ | refine blk_drew ?_ | refine blk_alloc ?_ _)); refine blk_far ?_ NB255_287.out _; (with_reducible repeat (first | refine blk_drewN ?_ _ | refine blk_drew ?_ | refine blk_alloc ?_ _)); exact BK255.out⟩
                          have n3_ : Aside0 ((w101.setCell ⟨gb287, 0, none⟩ (.int .i64 t285)).heap[gb260]? = some (.cells #[.int .i64 t256] 23 (0, 0))) := ⟨by (with_reducible repeat (first | refine blk_drewN ?_ _ | refine blk_drew ?_ | refine blk_alloc ?_ _)); refine blk_far ?_ NB260_287.out _; (with_reducible repeat (first | refine blk_drewN ?_ _ | refine blk_drew ?_ | refine blk_alloc ?_ _)); exact BK260.out⟩
                          have n4_ : Aside0 ((w101.setCell ⟨gb287, 0, none⟩ (.int .i64 t285)).heap[gb265]? = some (.cells #[.int .i64 t261] 23 (0, 0))) := ⟨by (with_reducible repeat (first | refine blk_drewN ?_ _ | refine blk_drew ?_ | refine blk_alloc ?_ _)); refine blk_far ?_ NB265_287.out _; (with_reducible repeat (first | refine blk_drewN ?_ _ | refine blk_drew ?_ | refine blk_alloc ?_ _)); exact BK265.out⟩
                          have n5_ : Aside0 ((w101.setCell ⟨gb287, 0, none⟩ (.int .i64 t285)).heap[gb284]? = some (.cells #[.int .i64 t282] 23 (0, 0))) := ⟨by (with_reducible repeat (first | refine blk_drewN ?_ _ | refine blk_drew ?_ | refine blk_alloc ?_ _)); refine blk_far ?_ NB284_287.out _; (with_reducible repeat (first | refine blk_drewN ?_ _ | refine blk_drew ?_ | refine blk_alloc ?_ _)); exact BK284.out⟩
                          have n6_ : Aside0 ((w101.setCell ⟨gb287, 0, none⟩ (.int .i64 t285)).heap[gb287]? = some (.cells #[.int .i64 t285] 23 (0, 0))) := ⟨by (with_reducible repeat (first | refine blk_drewN ?_ _ | refine blk_drew ?_ | refine blk_alloc ?_ _)); refine blk_put (cs := #[.int .i64 0]) ?_ 0 _ rfl; (with_reducible repeat (first | refine blk_drewN ?_ _ | refine blk_drew ?_ | refine blk_alloc ?_ _)); exact BK287.out⟩
                          have n7_ : Aside0 (Below w.heap.size w (w101.setCell ⟨gb287, 0, none⟩ (.int .i64 t285))) := ⟨by repeat (first | (with_reducible first | exact HB.out | apply below_alloc | apply pw_below_drewN | apply below_drew1 | refine below_set ?_ GE255.out | refine below_set ?_ GE260.out | refine below_set ?_ GE265.out | refine below_set ?_ GE284.out | refine below_set ?_ GE287.out) | exact HB.out)⟩
                          (try clear HO276)
                          (try clear HO280)
                          (try clear BK255)
                          (try clear BK260)
                          (try clear BK265)
                          (try clear BK284)
                          (try clear BK287)
                          (try clear HB)
                          generalize (w101.setCell ⟨gb287, 0, none⟩ (.int .i64 t285)) = w107 at n0_ n1_ n2_ n3_ n4_ n5_ n6_ n7_ ⊢
                          have HO276 := n0_
                          have HO280 := n1_
                          have BK255 := n2_
                          have BK260 := n3_
                          have BK265 := n4_
                          have BK284 := n5_
                          have BK287 := n6_
                          have HB := n7_
                          clear n0_ n1_ n2_ n3_ n4_ n5_ n6_ n7_
                          have n0_ := Aside0.mk (Kd.R_drew HO276.out)
                          have n1_ := Aside0.mk (Kd.R_drew HO280.out)
                          have n2_ := Aside0.mk (blk_drew BK255.out)
                          have n3_ := Aside0.mk (blk_drew BK260.out)
                          have n4_ := Aside0.mk (blk_drew BK265.out)
                          have n5_ := Aside0.mk (blk_drew BK284.out)
                          have n6_ := Aside0.mk (blk_drew BK287.out)
                          have n7_ := Aside0.mk (below_drew1 HB.out)
                          clear HO276
                          clear HO280
                          clear BK255
                          clear BK260
                          clear BK265
                          clear BK284
                          clear BK287
                          clear HB
                          have HO276 := n0_
                          have HO280 := n1_
                          have BK255 := n2_
                          have BK260 := n3_
                          have BK265 := n4_
                          have BK284 := n5_
                          have BK287 := n6_
                          have HB := n7_
                          clear n0_ n1_ n2_ n3_ n4_ n5_ n6_ n7_
                          refine start_ (n := 48) (S := fun w' => w'.cell? ⟨gb255, 0, none⟩ = some (.int .i64 a0_0) ∧ w'.cell? ⟨gb284, 0, none⟩ = some (.int .i64 t282) ∧ w'.cell? ⟨gb287, 0, none⟩ = some (.int .i64 t285)) (ds := []) #[false, false, false, false, false, false, false, false, false, false, false, false, false, false, false, false, false, false, false, false, false, false, false, false, false, false, false, false, false, false, false, false, false, false, false, false, false, false, false, false, false, false, false, false, false, false, false, false] (by kernel_rfl) rfl rfl ⟨(blk_cell BK255.out 0).trans rfl, (blk_cell BK284.out 0).trans rfl, (blk_cell BK287.out 0).trans rfl⟩ (fun hHeld => ?_); refine with_tabW bitloftlaw14_NibbleWalks.tab15 bitloftlaw14_NibbleWalks.bits15 (fun HT_ HW_ => ?_)
                          generalize w107.drew = w108 at HO276 HO280 BK255 BK260 BK265 BK284 BK287 HB hHeld ⊢
                          refine pure_ (i := 1) (N := some 121) (v := ?_) (a' := ?_) #[false, true, false, false, false, false, false, false, false, false, false, false, false, false, false, false, false, false, false, false, false, false, false, false, false, false, false, false, false, false, false, false, false, false, false, false, false, false, false, false, false, false, false, false, false, false, false, false] rfl rfl (any_of HT_.out (by kernel_rfl)) (fun _ _ _ h => h) (Or.inl ⟨by rfl, ?_⟩) ?_ ?_
                          rotate_left
                          · intro w'
                            go_simp
                            with_reducible rfl
                          rotate_left
                          · simp only [Act.put, List.setIfInBounds_toArray, List.set_cons_zero, List.set_cons_succ, i64_w, i32_w]
                            rfl
                          refine one_ (i := 0) (N := some 120) #[true, true, false, false, false, false, false, false, false, false, false, false, false, false, false, false, false, false, false, false, false, false, false, false, false, false, false, false, false, false, false, false, false, false, false, false, false, false, false, false, false, false, false, false, false, false, false, false] rfl rfl (one_of HT_.out (by kernel_rfl)) (by decide) (fun K hK => ?_)
                          refine goes_ Try.func16 (by kernel_rfl) rfl #[] (by rfl) rfl rfl (by (try simp only [List.map_toArray, List.map_cons, List.map_nil]); first | done | rfl | (simp only [List.length_drop, List.length_take]; rfl)) ?_
                          with_reducible refine (nibble_New.calls  t288 _ A70.out).mono ?_
                          rintro e w109 ⟨rfl, hb⟩
                          refine ⟨_, rfl, ?_⟩
                          have n0_ := Aside0.mk (Kd.R_below (by (with_reducible repeat (first | apply Kd.R_alloc | apply Kd.R_drewN | apply Kd.R_drew)); exact HO276.out) hb)
                          have n1_ := Aside0.mk (Kd.R_below (by (with_reducible repeat (first | apply Kd.R_alloc | apply Kd.R_drewN | apply Kd.R_drew)); exact HO280.out) hb)
                          have n2_ := Aside0.mk (blk_below (g := gb255) (o := .cells #[.int .i64 a0_0] 23 (0, 0)) (by (with_reducible repeat (first | refine blk_drewN ?_ _ | refine blk_drew ?_ | refine blk_alloc ?_ _)); exact BK255.out) hb)
                          have n3_ := Aside0.mk (blk_below (g := gb260) (o := .cells #[.int .i64 t256] 23 (0, 0)) (by (with_reducible repeat (first | refine blk_drewN ?_ _ | refine blk_drew ?_ | refine blk_alloc ?_ _)); exact BK260.out) hb)
                          have n4_ := Aside0.mk (blk_below (g := gb265) (o := .cells #[.int .i64 t261] 23 (0, 0)) (by (with_reducible repeat (first | refine blk_drewN ?_ _ | refine blk_drew ?_ | refine blk_alloc ?_ _)); exact BK265.out) hb)
                          have n5_ := Aside0.mk (blk_below (g := gb284) (o := .cells #[.int .i64 t282] 23 (0, 0)) (by (with_reducible repeat (first | refine blk_drewN ?_ _ | refine blk_drew ?_ | refine blk_alloc ?_ _)); exact BK284.out) hb)
                          have n6_ := Aside0.mk (blk_below (g := gb287) (o := .cells #[.int .i64 t285] 23 (0, 0)) (by (with_reducible repeat (first | refine blk_drewN ?_ _ | refine blk_drew ?_ | refine blk_alloc ?_ _)); exact BK287.out) hb)
                          have n7_ := Aside0.mk (below_step (by repeat (first | (with_reducible first | exact HB.out | apply below_alloc | apply pw_below_drewN | apply below_drew1 | refine below_set ?_ GE255.out | refine below_set ?_ GE260.out | refine below_set ?_ GE265.out | refine below_set ?_ GE284.out | refine below_set ?_ GE287.out) | exact HB.out)) hb)
                          clear HO276
                          clear HO280
                          clear BK255
                          clear BK260
                          clear BK265
                          clear BK284
                          clear BK287
                          clear HB
                          have HO276 := n0_
                          have HO280 := n1_
                          have BK255 := n2_
                          have BK260 := n3_
                          have BK265 := n4_
                          have BK284 := n5_
                          have BK287 := n6_
                          have HB := n7_
                          clear n0_ n1_ n2_ n3_ n4_ n5_ n6_ n7_
                          (try clear hb)
                          (try clear hb2)
                          (try clear hk)
                          (try clear hi)
                          refine hK.out _ _ ⟨(blk_cell BK255.out 0).trans rfl, (blk_cell BK284.out 0).trans rfl, (blk_cell BK287.out 0).trans rfl⟩ (fun hHeld => ?_)
                          clear hK K
                          refine norm_ (a' := ?_) ?_ ?_
                          rotate_left
                          · show Act.put _ (some 120) _ = _
                            simp only [Act.put, List.setIfInBounds_toArray, List.set_cons_zero, List.set_cons_succ, i64_w, i32_w]
                            rfl
                          refine pure_ (i := 2) (N := some 122) (v := ?_) (a' := ?_) #[true, true, true, false, false, false, false, false, false, false, false, false, false, false, false, false, false, false, false, false, false, false, false, false, false, false, false, false, false, false, false, false, false, false, false, false, false, false, false, false, false, false, false, false, false, false, false, false] rfl rfl (any_of HT_.out (by kernel_rfl)) (fun _ _ _ h => h) (Or.inl ⟨by rfl, ?_⟩) ?_ ?_
                          rotate_left
                          · intro w'
                            go_simp
                            with_reducible rfl
                          rotate_left
                          · simp only [Act.put, List.setIfInBounds_toArray, List.set_cons_zero, List.set_cons_succ, i64_w, i32_w]
                            rfl
                          refine pure_ (i := 3) (N := some 123) (v := ?_) (a' := ?_) #[true, true, true, true, false, false, false, false, false, false, false, false, false, false, false, false, false, false, false, false, false, false, false, false, false, false, false, false, false, false, false, false, false, false, false, false, false, false, false, false, false, false, false, false, false, false, false, false] rfl rfl (any_of HT_.out (by kernel_rfl)) (fun _ _ _ h => h) (Or.inl ⟨by rfl, ?_⟩) ?_ ?_
                          rotate_left
                          · intro w'
                            go_simp
                            with_reducible rfl
                          rotate_left
                          · simp only [Act.put, List.setIfInBounds_toArray, List.set_cons_zero, List.set_cons_succ, i64_w, i32_w]
                            rfl
                          refine take_ (i := 4) (N := some 124) (v := ?_) (a' := ?_) #[true, true, true, true, true, false, false, false, false, false, false, false, false, false, false, false, false, false, false, false, false, false, false, false, false, false, false, false, false, false, false, false, false, false, false, false, false, false, false, false, false, false, false, false, false, false, false, false] rfl rfl (take_ofW HT_.out HW_.out (by kernel_rfl)) (fun _ _ _ h => h) (Or.inl ⟨by rfl, ?_⟩) hHeld ?_ ?_
                          rotate_left
                          · rintro w' ⟨s0, s1, s2⟩
                            go_simp
                            with_reducible rfl
                          rotate_left
                          · simp only [Act.put, List.setIfInBounds_toArray, List.set_cons_zero, List.set_cons_succ, i64_w, i32_w]
                            rfl
                          refine take_ (i := 6) (N := some 126) (v := ?_) (a' := ?_) #[true, true, true, true, true, false, true, false, false, false, false, false, false, false, false, false, false, false, false, false, false, false, false, false, false, false, false, false, false, false, false, false, false, false, false, false, false, false, false, false, false, false, false, false, false, false, false, false] rfl rfl (take_ofW HT_.out HW_.out (by kernel_rfl)) (fun _ _ _ h => h) (Or.inl ⟨by rfl, ?_⟩) hHeld ?_ ?_
                          rotate_left
                          · rintro w' ⟨s0, s1, s2⟩
                            go_simp
                            with_reducible rfl
                          rotate_left
                          · simp only [Act.put, List.setIfInBounds_toArray, List.set_cons_zero, List.set_cons_succ, i64_w, i32_w]
                            rfl
                          refine one_ (i := 5) (N := some 125) #[true, true, true, true, true, true, true, false, false, false, false, false, false, false, false, false, false, false, false, false, false, false, false, false, false, false, false, false, false, false, false, false, false, false, false, false, false, false, false, false, false, false, false, false, false, false, false, false] rfl rfl (one_of HT_.out (by kernel_rfl)) (by decide) (fun K hK => ?_)
                          refine goes_ Try.func24 (by kernel_rfl) rfl #[.agg #[.int .i64 a0_0]] (by rfl) rfl rfl (by (try simp only [List.map_toArray, List.map_cons, List.map_nil]); first | done | rfl | (simp only [List.length_drop, List.length_take]; rfl)) ?_
                          with_reducible refine (nibble_Check.calls a0_0 t289 _ A72.out).mono ?_
                          rintro e w110 ⟨rfl, hb⟩
                          refine ⟨_, rfl, ?_⟩
                          have n0_ := Aside0.mk (Kd.R_below (by (with_reducible repeat (first | apply Kd.R_alloc | apply Kd.R_drewN | apply Kd.R_drew)); exact HO276.out) hb)
                          have n1_ := Aside0.mk (Kd.R_below (by (with_reducible repeat (first | apply Kd.R_alloc | apply Kd.R_drewN | apply Kd.R_drew)); exact HO280.out) hb)
                          have n2_ := Aside0.mk (blk_below (g := gb255) (o := .cells #[.int .i64 a0_0] 23 (0, 0)) (by (with_reducible repeat (first | refine blk_drewN ?_ _ | refine blk_drew ?_ | refine blk_alloc ?_ _)); exact BK255.out) hb)
                          have n3_ := Aside0.mk (blk_below (g := gb260) (o := .cells #[.int .i64 t256] 23 (0, 0)) (by (with_reducible repeat (first | refine blk_drewN ?_ _ | refine blk_drew ?_ | refine blk_alloc ?_ _)); exact BK260.out) hb)
                          have n4_ := Aside0.mk (blk_below (g := gb265) (o := .cells #[.int .i64 t261] 23 (0, 0)) (by (with_reducible repeat (first | refine blk_drewN ?_ _ | refine blk_drew ?_ | refine blk_alloc ?_ _)); exact BK265.out) hb)
                          have n5_ := Aside0.mk (blk_below (g := gb284) (o := .cells #[.int .i64 t282] 23 (0, 0)) (by (with_reducible repeat (first | refine blk_drewN ?_ _ | refine blk_drew ?_ | refine blk_alloc ?_ _)); exact BK284.out) hb)
                          have n6_ := Aside0.mk (blk_below (g := gb287) (o := .cells #[.int .i64 t285] 23 (0, 0)) (by (with_reducible repeat (first | refine blk_drewN ?_ _ | refine blk_drew ?_ | refine blk_alloc ?_ _)); exact BK287.out) hb)
                          have n7_ := Aside0.mk (below_step (by repeat (first | (with_reducible first | exact HB.out | apply below_alloc | apply pw_below_drewN | apply below_drew1 | refine below_set ?_ GE255.out | refine below_set ?_ GE260.out | refine below_set ?_ GE265.out | refine below_set ?_ GE284.out | refine below_set ?_ GE287.out) | exact HB.out)) hb)
                          clear HO276
                          clear HO280
                          clear BK255
                          clear BK260
                          clear BK265
                          clear BK284
                          clear BK287
                          clear HB
                          have HO276 := n0_
                          have HO280 := n1_
                          have BK255 := n2_
                          have BK260 := n3_
                          have BK265 := n4_
                          have BK284 := n5_
                          have BK287 := n6_
                          have HB := n7_
                          clear n0_ n1_ n2_ n3_ n4_ n5_ n6_ n7_
                          (try clear hb)
                          (try clear hb2)
                          (try clear hk)
                          (try clear hi)
                          refine hK.out _ _ ⟨(blk_cell BK255.out 0).trans rfl, (blk_cell BK284.out 0).trans rfl, (blk_cell BK287.out 0).trans rfl⟩ (fun hHeld => ?_)
                          clear hK K
                          refine norm_ (a' := ?_) ?_ ?_
                          rotate_left
                          · show Act.put _ (some 125) _ = _
                            simp only [Act.put, List.setIfInBounds_toArray, List.set_cons_zero, List.set_cons_succ, i64_w, i32_w]
                            rfl
                          refine one_ (i := 7) (N := some 127) #[true, true, true, true, true, true, true, true, false, false, false, false, false, false, false, false, false, false, false, false, false, false, false, false, false, false, false, false, false, false, false, false, false, false, false, false, false, false, false, false, false, false, false, false, false, false, false, false] rfl rfl (one_of HT_.out (by kernel_rfl)) (by decide) (fun K hK => ?_)
                          refine goes_ Try.func9 (by kernel_rfl) rfl #[.agg #[.int .i64 a0_0]] (by rfl) rfl rfl (by (try simp only [List.map_toArray, List.map_cons, List.map_nil]); first | done | rfl | (simp only [List.length_drop, List.length_take]; rfl)) ?_
                          with_reducible refine (bitloftref14_Check.calls a0_0 t290 _ A73.out).mono ?_
                          rintro e w111 ⟨rfl, hb⟩
                          refine ⟨_, rfl, ?_⟩
                          have n0_ := Aside0.mk (Kd.R_below (by (with_reducible repeat (first | apply Kd.R_alloc | apply Kd.R_drewN | apply Kd.R_drew)); exact HO276.out) hb)
                          have n1_ := Aside0.mk (Kd.R_below (by (with_reducible repeat (first | apply Kd.R_alloc | apply Kd.R_drewN | apply Kd.R_drew)); exact HO280.out) hb)
                          have n2_ := Aside0.mk (blk_below (g := gb255) (o := .cells #[.int .i64 a0_0] 23 (0, 0)) (by (with_reducible repeat (first | refine blk_drewN ?_ _ | refine blk_drew ?_ | refine blk_alloc ?_ _)); exact BK255.out) hb)
                          have n3_ := Aside0.mk (blk_below (g := gb260) (o := .cells #[.int .i64 t256] 23 (0, 0)) (by (with_reducible repeat (first | refine blk_drewN ?_ _ | refine blk_drew ?_ | refine blk_alloc ?_ _)); exact BK260.out) hb)
                          have n4_ := Aside0.mk (blk_below (g := gb265) (o := .cells #[.int .i64 t261] 23 (0, 0)) (by (with_reducible repeat (first | refine blk_drewN ?_ _ | refine blk_drew ?_ | refine blk_alloc ?_ _)); exact BK265.out) hb)
                          have n5_ := Aside0.mk (blk_below (g := gb284) (o := .cells #[.int .i64 t282] 23 (0, 0)) (by (with_reducible repeat (first | refine blk_drewN ?_ _ | refine blk_drew ?_ | refine blk_alloc ?_ _)); exact BK284.out) hb)
                          have n6_ := Aside0.mk (blk_below (g := gb287) (o := .cells #[.int .i64 t285] 23 (0, 0)) (by (with_reducible repeat (first | refine blk_drewN ?_ _ | refine blk_drew ?_ | refine blk_alloc ?_ _)); exact BK287.out) hb)
                          have n7_ := Aside0.mk (below_step (by repeat (first | (with_reducible first | exact HB.out | apply below_alloc | apply pw_below_drewN | apply below_drew1 | refine below_set ?_ GE255.out | refine below_set ?_ GE260.out | refine below_set ?_ GE265.out | refine below_set ?_ GE284.out | refine below_set ?_ GE287.out) | exact HB.out)) hb)
                          clear HO276
                          clear HO280
                          clear BK255
                          clear BK260
                          clear BK265
                          clear BK284
                          clear BK287
                          clear HB
                          have HO276 := n0_
                          have HO280 := n1_
                          have BK255 := n2_
                          have BK260 := n3_
                          have BK265 := n4_
                          have BK284 := n5_
                          have BK287 := n6_
                          have HB := n7_
                          clear n0_ n1_ n2_ n3_ n4_ n5_ n6_ n7_
                          (try clear hb)
                          (try clear hb2)
                          (try clear hk)
                          (try clear hi)
                          obtain ⟨Ao112, co112, eo112⟩ := Kd.R_slice HO276.out
                          (first | subst eo112 | (injection eo112 with f1_ f2_ f3_; have f4_ := f1_.symm; have f5_ := f3_.symm; clear f1_ f2_ f3_; subst f4_; subst f5_))
                          obtain ⟨Ao113, co113, eo113⟩ := Kd.R_slice HO280.out
                          (first | subst eo113 | (injection eo113 with f1_ f2_ f3_; have f4_ := f1_.symm; have f5_ := f3_.symm; clear f1_ f2_ f3_; subst f4_; subst f5_))
                          refine hK.out _ _ ⟨(blk_cell BK255.out 0).trans rfl, (blk_cell BK284.out 0).trans rfl, (blk_cell BK287.out 0).trans rfl⟩ (fun hHeld => ?_)
                          clear hK K
                          refine norm_ (a' := ?_) ?_ ?_
                          rotate_left
                          · show Act.put _ (some 127) _ = _
                            simp only [Act.put, List.setIfInBounds_toArray, List.set_cons_zero, List.set_cons_succ, i64_w, i32_w]
                            rfl
                          refine pure_ (i := 8) (N := some 128) (v := ?_) (a' := ?_) #[true, true, true, true, true, true, true, true, true, false, false, false, false, false, false, false, false, false, false, false, false, false, false, false, false, false, false, false, false, false, false, false, false, false, false, false, false, false, false, false, false, false, false, false, false, false, false, false] rfl rfl (any_of HT_.out (by kernel_rfl)) (fun _ _ _ h => h) (Or.inl ⟨by rfl, ?_⟩) ?_ ?_
                          rotate_left
                          · intro w'
                            go_simp
                            with_reducible rfl
                          rotate_left
                          · simp only [Act.put, List.setIfInBounds_toArray, List.set_cons_zero, List.set_cons_succ, i64_w, i32_w]
                            rfl
                          refine pure_ (i := 9) (N := some 129) (v := ?_) (a' := ?_) #[true, true, true, true, true, true, true, true, true, true, false, false, false, false, false, false, false, false, false, false, false, false, false, false, false, false, false, false, false, false, false, false, false, false, false, false, false, false, false, false, false, false, false, false, false, false, false, false] rfl rfl (any_of HT_.out (by kernel_rfl)) (fun _ _ _ h => h) (Or.inl ⟨by rfl, ?_⟩) ?_ ?_
                          rotate_left
                          · intro w'
                            go_simp
                            with_reducible rfl
                          rotate_left
                          · simp only [Act.put, List.setIfInBounds_toArray, List.set_cons_zero, List.set_cons_succ, i64_w, i32_w]
                            rfl
                          refine pure_ (i := 10) (N := some 130) (v := ?_) (a' := ?_) #[true, true, true, true, true, true, true, true, true, true, true, false, false, false, false, false, false, false, false, false, false, false, false, false, false, false, false, false, false, false, false, false, false, false, false, false, false, false, false, false, false, false, false, false, false, false, false, false] rfl rfl (any_of HT_.out (by kernel_rfl)) (fun _ _ _ h => h) (Or.inl ⟨by rfl, ?_⟩) ?_ ?_
                          rotate_left
                          · intro w'
                            go_simp
                            with_reducible rfl
                          rotate_left
                          · simp only [Act.put, List.setIfInBounds_toArray, List.set_cons_zero, List.set_cons_succ, i64_w, i32_w]
                            rfl
                          refine pure_ (i := 11) (N := some 131) (v := ?_) (a' := ?_) #[true, true, true, true, true, true, true, true, true, true, true, true, false, false, false, false, false, false, false, false, false, false, false, false, false, false, false, false, false, false, false, false, false, false, false, false, false, false, false, false, false, false, false, false, false, false, false, false] rfl rfl (any_of HT_.out (by kernel_rfl)) (fun _ _ _ h => h) (Or.inl ⟨by rfl, ?_⟩) ?_ ?_
                          rotate_left
                          · intro w'
                            go_simp
                            with_reducible rfl
                          rotate_left
                          · simp only [Act.put, List.setIfInBounds_toArray, List.set_cons_zero, List.set_cons_succ, i64_w, i32_w]
                            rfl
                          refine pure_ (i := 12) (N := some 132) (v := ?_) (a' := ?_) #[true, true, true, true, true, true, true, true, true, true, true, true, true, false, false, false, false, false, false, false, false, false, false, false, false, false, false, false, false, false, false, false, false, false, false, false, false, false, false, false, false, false, false, false, false, false, false, false] rfl rfl (any_of HT_.out (by kernel_rfl)) (fun _ _ _ h => h) (Or.inl ⟨by rfl, ?_⟩) ?_ ?_
                          rotate_left
                          · intro w'
                            go_simp
                            with_reducible rfl
                          rotate_left
                          · simp only [Act.put, List.setIfInBounds_toArray, List.set_cons_zero, List.set_cons_succ, i64_w, i32_w]
                            rfl
                          refine pure_ (i := 13) (N := some 133) (v := ?_) (a' := ?_) #[true, true, true, true, true, true, true, true, true, true, true, true, true, true, false, false, false, false, false, false, false, false, false, false, false, false, false, false, false, false, false, false, false, false, false, false, false, false, false, false, false, false, false, false, false, false, false, false] rfl rfl (any_of HT_.out (by kernel_rfl)) (fun _ _ _ h => h) (Or.inl ⟨by rfl, ?_⟩) ?_ ?_
                          rotate_left
                          · intro w'
                            go_simp
                            with_reducible rfl
                          rotate_left
                          · simp only [Act.put, List.setIfInBounds_toArray, List.set_cons_zero, List.set_cons_succ, i64_w, i32_w]
                            rfl
                          refine pure_ (i := 14) (N := some 134) (v := ?_) (a' := ?_) #[true, true, true, true, true, true, true, true, true, true, true, true, true, true, true, false, false, false, false, false, false, false, false, false, false, false, false, false, false, false, false, false, false, false, false, false, false, false, false, false, false, false, false, false, false, false, false, false] rfl rfl (any_of HT_.out (by kernel_rfl)) (fun _ _ _ h => h) (Or.inl ⟨by rfl, ?_⟩) ?_ ?_
                          rotate_left
                          · intro w'
                            go_simp
                            with_reducible rfl
                          rotate_left
                          · simp only [Act.put, List.setIfInBounds_toArray, List.set_cons_zero, List.set_cons_succ, i64_w, i32_w]
                            rfl
                          refine pure_ (i := 15) (N := some 135) (v := ?_) (a' := ?_) #[true, true, true, true, true, true, true, true, true, true, true, true, true, true, true, true, false, false, false, false, false, false, false, false, false, false, false, false, false, false, false, false, false, false, false, false, false, false, false, false, false, false, false, false, false, false, false, false] rfl rfl (any_of HT_.out (by kernel_rfl)) (fun _ _ _ h => h) (Or.inl ⟨by rfl, ?_⟩) ?_ ?_
                          rotate_left
                          · intro w'
                            go_simp
                            with_reducible rfl
                          rotate_left
                          · simp only [Act.put, List.setIfInBounds_toArray, List.set_cons_zero, List.set_cons_succ, i64_w, i32_w]
                            rfl
                          refine pure_ (i := 16) (N := some 136) (v := ?_) (a' := ?_) #[true, true, true, true, true, true, true, true, true, true, true, true, true, true, true, true, true, false, false, false, false, false, false, false, false, false, false, false, false, false, false, false, false, false, false, false, false, false, false, false, false, false, false, false, false, false, false, false] rfl rfl (any_of HT_.out (by kernel_rfl)) (fun _ _ _ h => h) (Or.inl ⟨by rfl, ?_⟩) ?_ ?_
                          rotate_left
                          · intro w'
                            go_simp
                            with_reducible rfl
                          rotate_left
                          · simp only [Act.put, List.setIfInBounds_toArray, List.set_cons_zero, List.set_cons_succ, i64_w, i32_w]
                            rfl
                          refine pure_ (i := 17) (N := some 137) (v := ?_) (a' := ?_) #[true, true, true, true, true, true, true, true, true, true, true, true, true, true, true, true, true, true, false, false, false, false, false, false, false, false, false, false, false, false, false, false, false, false, false, false, false, false, false, false, false, false, false, false, false, false, false, false] rfl rfl (any_of HT_.out (by kernel_rfl)) (fun _ _ _ h => h) (Or.inl ⟨by rfl, ?_⟩) ?_ ?_
                          rotate_left
                          · intro w'
                            go_simp
                            with_reducible rfl
                          rotate_left
                          · simp only [Act.put, List.setIfInBounds_toArray, List.set_cons_zero, List.set_cons_succ, i64_w, i32_w]
                            rfl
                          refine pure_ (i := 18) (N := some 138) (v := ?_) (a' := ?_) #[true, true, true, true, true, true, true, true, true, true, true, true, true, true, true, true, true, true, true, false, false, false, false, false, false, false, false, false, false, false, false, false, false, false, false, false, false, false, false, false, false, false, false, false, false, false, false, false] rfl rfl (any_of HT_.out (by kernel_rfl)) (fun _ _ _ h => h) (Or.inl ⟨by rfl, ?_⟩) ?_ ?_
                          rotate_left
                          · intro w'
                            go_simp
                            with_reducible rfl
                          rotate_left
                          · simp only [Act.put, List.setIfInBounds_toArray, List.set_cons_zero, List.set_cons_succ, i64_w, i32_w]
                            rfl
                          refine pure_ (i := 19) (N := some 139) (v := ?_) (a' := ?_) #[true, true, true, true, true, true, true, true, true, true, true, true, true, true, true, true, true, true, true, true, false, false, false, false, false, false, false, false, false, false, false, false, false, false, false, false, false, false, false, false, false, false, false, false, false, false, false, false] rfl rfl (any_of HT_.out (by kernel_rfl)) (fun _ _ _ h => h) (Or.inl ⟨by rfl, ?_⟩) ?_ ?_
                          rotate_left
                          · intro w'
                            go_simp
                            with_reducible rfl
                          rotate_left
                          · simp only [Act.put, List.setIfInBounds_toArray, List.set_cons_zero, List.set_cons_succ, i64_w, i32_w]
                            rfl
                          refine pure_ (i := 20) (N := some 140) (v := ?_) (a' := ?_) #[true, true, true, true, true, true, true, true, true, true, true, true, true, true, true, true, true, true, true, true, true, false, false, false, false, false, false, false, false, false, false, false, false, false, false, false, false, false, false, false, false, false, false, false, false, false, false, false] rfl rfl (any_of HT_.out (by kernel_rfl)) (fun _ _ _ h => h) (Or.inl ⟨by rfl, ?_⟩) ?_ ?_
                          rotate_left
                          · intro w'
                            go_simp
                            with_reducible rfl
                          rotate_left
                          · simp only [Act.put, List.setIfInBounds_toArray, List.set_cons_zero, List.set_cons_succ, i64_w, i32_w]
                            rfl
                          refine pure_ (i := 21) (N := some 141) (v := ?_) (a' := ?_) #[true, true, true, true, true, true, true, true, true, true, true, true, true, true, true, true, true, true, true, true, true, true, false, false, false, false, false, false, false, false, false, false, false, false, false, false, false, false, false, false, false, false, false, false, false, false, false, false] rfl rfl (any_of HT_.out (by kernel_rfl)) (fun _ _ _ h => h) (Or.inl ⟨by rfl, ?_⟩) ?_ ?_
                          rotate_left
                          · intro w'
                            go_simp
                            with_reducible rfl
                          rotate_left
                          · simp only [Act.put, List.setIfInBounds_toArray, List.set_cons_zero, List.set_cons_succ, i64_w, i32_w]
                            rfl
                          refine pure_ (i := 22) (N := some 142) (v := ?_) (a' := ?_) #[true, true, true, true, true, true, true, true, true, true, true, true, true, true, true, true, true, true, true, true, true, true, true, false, false, false, false, false, false, false, false, false, false, false, false, false, false, false, false, false, false, false, false, false, false, false, false, false] rfl rfl (any_of HT_.out (by kernel_rfl)) (fun _ _ _ h => h) (Or.inl ⟨by rfl, ?_⟩) ?_ ?_
                          rotate_left
                          · intro w'
                            go_simp
                            with_reducible rfl
                          rotate_left
                          · simp only [Act.put, List.setIfInBounds_toArray, List.set_cons_zero, List.set_cons_succ, i64_w, i32_w]
                            rfl
                          refine one_ (i := 23) (N := some 143) #[true, true, true, true, true, true, true, true, true, true, true, true, true, true, true, true, true, true, true, true, true, true, true, true, false, false, false, false, false, false, false, false, false, false, false, false, false, false, false, false, false, false, false, false, false, false, false, false] rfl rfl (one_of HT_.out (by kernel_rfl)) (by decide) (fun K hK => ?_)
                          refine goes_ Try.func14 (by kernel_rfl) rfl #[.slice Ao112 t274.length co112, .slice Ao113 t278.length co113] (by rfl) rfl rfl (by (try simp only [List.map_toArray, List.map_cons, List.map_nil]); first | done | rfl | (simp only [List.length_drop, List.length_take]; rfl)) ?_
                          with_reducible refine (bitloftref14_Same.calls kj10 _ _ t274 _ _ t278 true _ ?side1 ?side2 ?side3 ?side4 A77.out).mono ?_
                          (case side1 => repeat (first | exact (Kd.R_reads' HO276.out).2.2 | (with_reducible refine Kd.C_alloc ?_ _) | (with_reducible refine Kd.C_drewN ?_ _) | (with_reducible refine Kd.C_drew ?_)))
                          (case side2 => exact (Kd.R_reads' HO276.out).2.1)
                          (case side3 => repeat (first | exact (Kd.R_reads' HO280.out).2.2 | (with_reducible refine Kd.C_alloc ?_ _) | (with_reducible refine Kd.C_drewN ?_ _) | (with_reducible refine Kd.C_drew ?_)))
                          (case side4 => exact (Kd.R_reads' HO280.out).2.1)
                          rintro e w' ⟨rfl, ⟨nd, rfl⟩⟩
                          refine ⟨_, rfl, ?_⟩
                          refine hK.out _ _ ⟨(blk_cell BK255.out 0).trans rfl, (blk_cell BK284.out 0).trans rfl, (blk_cell BK287.out 0).trans rfl⟩ (fun hHeld => ?_)
                          clear hK K
                          refine norm_ (a' := ?_) ?_ ?_
                          rotate_left
                          · show Act.put _ (some 143) _ = _
                            simp only [Act.put, List.setIfInBounds_toArray, List.set_cons_zero, List.set_cons_succ, i64_w, i32_w]
                            rfl
                          refine pure_ (i := 24) (N := some 144) (v := ?_) (a' := ?_) #[true, true, true, true, true, true, true, true, true, true, true, true, true, true, true, true, true, true, true, true, true, true, true, true, true, false, false, false, false, false, false, false, false, false, false, false, false, false, false, false, false, false, false, false, false, false, false, false] rfl rfl (any_of HT_.out (by kernel_rfl)) (fun _ _ _ h => h) (Or.inl ⟨by rfl, ?_⟩) ?_ ?_
                          rotate_left
                          · intro w'
                            go_simp
                            with_reducible rfl
                          rotate_left
                          · simp only [Act.put, List.setIfInBounds_toArray, List.set_cons_zero, List.set_cons_succ, i64_w, i32_w]
                            rfl
                          refine pure_ (i := 25) (N := some 145) (v := ?_) (a' := ?_) #[true, true, true, true, true, true, true, true, true, true, true, true, true, true, true, true, true, true, true, true, true, true, true, true, true, true, false, false, false, false, false, false, false, false, false, false, false, false, false, false, false, false, false, false, false, false, false, false] rfl rfl (any_of HT_.out (by kernel_rfl)) (fun _ _ _ h => h) (Or.inl ⟨by rfl, ?_⟩) ?_ ?_
                          rotate_left
                          · intro w'
                            go_simp
                            with_reducible rfl
                          rotate_left
                          · simp only [Act.put, List.setIfInBounds_toArray, List.set_cons_zero, List.set_cons_succ, i64_w, i32_w]
                            rfl
                          refine pure_ (i := 26) (N := some 146) (v := ?_) (a' := ?_) #[true, true, true, true, true, true, true, true, true, true, true, true, true, true, true, true, true, true, true, true, true, true, true, true, true, true, true, false, false, false, false, false, false, false, false, false, false, false, false, false, false, false, false, false, false, false, false, false] rfl rfl (any_of HT_.out (by kernel_rfl)) (fun _ _ _ h => h) (Or.inl ⟨by rfl, ?_⟩) ?_ ?_
                          rotate_left
                          · intro w'
                            go_simp
                            with_reducible rfl
                          rotate_left
                          · simp only [Act.put, List.setIfInBounds_toArray, List.set_cons_zero, List.set_cons_succ, i64_w, i32_w]
                            rfl
                          refine pure_ (i := 27) (N := some 147) (v := ?_) (a' := ?_) #[true, true, true, true, true, true, true, true, true, true, true, true, true, true, true, true, true, true, true, true, true, true, true, true, true, true, true, true, false, false, false, false, false, false, false, false, false, false, false, false, false, false, false, false, false, false, false, false] rfl rfl (any_of HT_.out (by kernel_rfl)) (fun _ _ _ h => h) (Or.inl ⟨by rfl, ?_⟩) ?_ ?_
                          rotate_left
                          · intro w'
                            go_simp
                            with_reducible rfl
                          rotate_left
                          · simp only [Act.put, List.setIfInBounds_toArray, List.set_cons_zero, List.set_cons_succ, i64_w, i32_w]
                            rfl
                          refine pure_ (i := 28) (N := some 148) (v := ?_) (a' := ?_) #[true, true, true, true, true, true, true, true, true, true, true, true, true, true, true, true, true, true, true, true, true, true, true, true, true, true, true, true, true, false, false, false, false, false, false, false, false, false, false, false, false, false, false, false, false, false, false, false] rfl rfl (any_of HT_.out (by kernel_rfl)) (fun _ _ _ h => h) (Or.inl ⟨by rfl, ?_⟩) ?_ ?_
                          rotate_left
                          · intro w'
                            go_simp
                            with_reducible rfl
                          rotate_left
                          · simp only [Act.put, List.setIfInBounds_toArray, List.set_cons_zero, List.set_cons_succ, i64_w, i32_w]
                            rfl
                          refine pure_ (i := 29) (N := some 149) (v := ?_) (a' := ?_) #[true, true, true, true, true, true, true, true, true, true, true, true, true, true, true, true, true, true, true, true, true, true, true, true, true, true, true, true, true, true, false, false, false, false, false, false, false, false, false, false, false, false, false, false, false, false, false, false] rfl rfl (any_of HT_.out (by kernel_rfl)) (fun _ _ _ h => h) (Or.inl ⟨by rfl, ?_⟩) ?_ ?_
                          rotate_left
                          · intro w'
                            go_simp
                            with_reducible rfl
                          rotate_left
                          · simp only [Act.put, List.setIfInBounds_toArray, List.set_cons_zero, List.set_cons_succ, i64_w, i32_w]
                            rfl
                          refine pure_ (i := 30) (N := some 150) (v := ?_) (a' := ?_) #[true, true, true, true, true, true, true, true, true, true, true, true, true, true, true, true, true, true, true, true, true, true, true, true, true, true, true, true, true, true, true, false, false, false, false, false, false, false, false, false, false, false, false, false, false, false, false, false] rfl rfl (any_of HT_.out (by kernel_rfl)) (fun _ _ _ h => h) (Or.inl ⟨by rfl, ?_⟩) ?_ ?_
                          rotate_left
                          · intro w'
                            go_simp
                            with_reducible rfl
                          rotate_left
                          · simp only [Act.put, List.setIfInBounds_toArray, List.set_cons_zero, List.set_cons_succ, i64_w, i32_w]
                            rfl
                          refine take_ (i := 31) (N := some 151) (v := ?_) (a' := ?_) #[true, true, true, true, true, true, true, true, true, true, true, true, true, true, true, true, true, true, true, true, true, true, true, true, true, true, true, true, true, true, true, true, false, false, false, false, false, false, false, false, false, false, false, false, false, false, false, false] rfl rfl (take_ofW HT_.out HW_.out (by kernel_rfl)) (fun _ _ _ h => h) (Or.inl ⟨by rfl, ?_⟩) hHeld ?_ ?_
                          rotate_left
                          · rintro w' ⟨s0, s1, s2⟩
                            go_simp
                            with_reducible rfl
                          rotate_left
                          · simp only [Act.put, List.setIfInBounds_toArray, List.set_cons_zero, List.set_cons_succ, i64_w, i32_w]
                            rfl
                          refine take_ (i := 32) (N := some 152) (v := ?_) (a' := ?_) #[true, true, true, true, true, true, true, true, true, true, true, true, true, true, true, true, true, true, true, true, true, true, true, true, true, true, true, true, true, true, true, true, true, false, false, false, false, false, false, false, false, false, false, false, false, false, false, false] rfl rfl (take_ofW HT_.out HW_.out (by kernel_rfl)) (fun _ _ _ h => h) (Or.inl ⟨by rfl, ?_⟩) hHeld ?_ ?_
                          rotate_left
                          · rintro w' ⟨s0, s1, s2⟩
                            go_simp
                            with_reducible rfl
                          rotate_left
                          · simp only [Act.put, List.setIfInBounds_toArray, List.set_cons_zero, List.set_cons_succ, i64_w, i32_w]
                            rfl
                          refine pure_ (i := 33) (N := some 153) (v := ?_) (a' := ?_) #[true, true, true, true, true, true, true, true, true, true, true, true, true, true, true, true, true, true, true, true, true, true, true, true, true, true, true, true, true, true, true, true, true, true, false, false, false, false, false, false, false, false, false, false, false, false, false, false] rfl rfl (any_of HT_.out (by kernel_rfl)) (fun _ _ _ h => h) (Or.inl ⟨by rfl, ?_⟩) ?_ ?_
                          rotate_left
                          · intro w'
                            go_simp
                            with_reducible rfl
                          rotate_left
                          · simp only [Act.put, List.setIfInBounds_toArray, List.set_cons_zero, List.set_cons_succ, i64_w, i32_w]
                            rfl
                          refine pure_ (i := 34) (N := some 154) (v := ?_) (a' := ?_) #[true, true, true, true, true, true, true, true, true, true, true, true, true, true, true, true, true, true, true, true, true, true, true, true, true, true, true, true, true, true, true, true, true, true, true, false, false, false, false, false, false, false, false, false, false, false, false, false] rfl rfl (any_of HT_.out (by kernel_rfl)) (fun _ _ _ h => h) (Or.inl ⟨by rfl, ?_⟩) ?_ ?_
                          rotate_left
                          · intro w'
                            go_simp
                            with_reducible rfl
                          rotate_left
                          · simp only [Act.put, List.setIfInBounds_toArray, List.set_cons_zero, List.set_cons_succ, i64_w, i32_w]
                            rfl
                          refine pure_ (i := 35) (N := some 155) (v := ?_) (a' := ?_) #[true, true, true, true, true, true, true, true, true, true, true, true, true, true, true, true, true, true, true, true, true, true, true, true, true, true, true, true, true, true, true, true, true, true, true, true, false, false, false, false, false, false, false, false, false, false, false, false] rfl rfl (any_of HT_.out (by kernel_rfl)) (fun _ _ _ h => h) (Or.inl ⟨by rfl, ?_⟩) ?_ ?_
                          rotate_left
                          · intro w'
                            go_simp
                            with_reducible rfl
                          rotate_left
                          · simp only [Act.put, List.setIfInBounds_toArray, List.set_cons_zero, List.set_cons_succ, i64_w, i32_w]
                            rfl
                          refine pure_ (i := 36) (N := some 156) (v := ?_) (a' := ?_) #[true, true, true, true, true, true, true, true, true, true, true, true, true, true, true, true, true, true, true, true, true, true, true, true, true, true, true, true, true, true, true, true, true, true, true, true, true, false, false, false, false, false, false, false, false, false, false, false] rfl rfl (any_of HT_.out (by kernel_rfl)) (fun _ _ _ h => h) (Or.inl ⟨by rfl, ?_⟩) ?_ ?_
                          rotate_left
                          · intro w'
                            go_simp
                            with_reducible rfl
                          rotate_left
                          · simp only [Act.put, List.setIfInBounds_toArray, List.set_cons_zero, List.set_cons_succ, i64_w, i32_w]
                            rfl
                          refine pure_ (i := 37) (N := some 157) (v := ?_) (a' := ?_) #[true, true, true, true, true, true, true, true, true, true, true, true, true, true, true, true, true, true, true, true, true, true, true, true, true, true, true, true, true, true, true, true, true, true, true, true, true, true, false, false, false, false, false, false, false, false, false, false] rfl rfl (any_of HT_.out (by kernel_rfl)) (fun _ _ _ h => h) (Or.inl ⟨by rfl, ?_⟩) ?_ ?_
                          rotate_left
                          · intro w'
                            go_simp
                            with_reducible rfl
                          rotate_left
                          · simp only [Act.put, List.setIfInBounds_toArray, List.set_cons_zero, List.set_cons_succ, i64_w, i32_w]
                            rfl
                          refine pure_ (i := 38) (N := some 158) (v := ?_) (a' := ?_) #[true, true, true, true, true, true, true, true, true, true, true, true, true, true, true, true, true, true, true, true, true, true, true, true, true, true, true, true, true, true, true, true, true, true, true, true, true, true, true, false, false, false, false, false, false, false, false, false] rfl rfl (any_of HT_.out (by kernel_rfl)) (fun _ _ _ h => h) (Or.inl ⟨by rfl, ?_⟩) ?_ ?_
                          rotate_left
                          · intro w'
                            go_simp
                            with_reducible rfl
                          rotate_left
                          · simp only [Act.put, List.setIfInBounds_toArray, List.set_cons_zero, List.set_cons_succ, i64_w, i32_w]
                            rfl
                          refine pure_ (i := 39) (N := some 159) (v := ?_) (a' := ?_) #[true, true, true, true, true, true, true, true, true, true, true, true, true, true, true, true, true, true, true, true, true, true, true, true, true, true, true, true, true, true, true, true, true, true, true, true, true, true, true, true, false, false, false, false, false, false, false, false] rfl rfl (any_of HT_.out (by kernel_rfl)) (fun _ _ _ h => h) (Or.inl ⟨by rfl, ?_⟩) ?_ ?_
                          rotate_left
                          · intro w'
                            go_simp
                            with_reducible rfl
                          rotate_left
                          · simp only [Act.put, List.setIfInBounds_toArray, List.set_cons_zero, List.set_cons_succ, i64_w, i32_w]
                            rfl
                          refine pure_ (i := 40) (N := some 160) (v := ?_) (a' := ?_) #[true, true, true, true, true, true, true, true, true, true, true, true, true, true, true, true, true, true, true, true, true, true, true, true, true, true, true, true, true, true, true, true, true, true, true, true, true, true, true, true, true, false, false, false, false, false, false, false] rfl rfl (any_of HT_.out (by kernel_rfl)) (fun _ _ _ h => h) (Or.inl ⟨by rfl, ?_⟩) ?_ ?_
                          rotate_left
                          · intro w'
                            go_simp
                            with_reducible rfl
                          rotate_left
                          · simp only [Act.put, List.setIfInBounds_toArray, List.set_cons_zero, List.set_cons_succ, i64_w, i32_w]
                            rfl
                          refine pure_ (i := 41) (N := some 161) (v := ?_) (a' := ?_) #[true, true, true, true, true, true, true, true, true, true, true, true, true, true, true, true, true, true, true, true, true, true, true, true, true, true, true, true, true, true, true, true, true, true, true, true, true, true, true, true, true, true, false, false, false, false, false, false] rfl rfl (any_of HT_.out (by kernel_rfl)) (fun _ _ _ h => h) (Or.inl ⟨by rfl, ?_⟩) ?_ ?_
                          rotate_left
                          · intro w'
                            go_simp
                            with_reducible rfl
                          rotate_left
                          · simp only [Act.put, List.setIfInBounds_toArray, List.set_cons_zero, List.set_cons_succ, i64_w, i32_w]
                            rfl
                          refine pure_ (i := 43) (N := some 163) (v := ?_) (a' := ?_) #[true, true, true, true, true, true, true, true, true, true, true, true, true, true, true, true, true, true, true, true, true, true, true, true, true, true, true, true, true, true, true, true, true, true, true, true, true, true, true, true, true, true, false, true, false, false, false, false] rfl rfl (any_of HT_.out (by kernel_rfl)) (fun _ _ _ h => h) (Or.inl ⟨by rfl, ?_⟩) ?_ ?_
                          rotate_left
                          · intro w'
                            go_simp
                            with_reducible rfl
                          rotate_left
                          · simp only [Act.put, List.setIfInBounds_toArray, List.set_cons_zero, List.set_cons_succ, i64_w, i32_w]
                            rfl
                          refine one_ (i := 42) (N := some 162) #[true, true, true, true, true, true, true, true, true, true, true, true, true, true, true, true, true, true, true, true, true, true, true, true, true, true, true, true, true, true, true, true, true, true, true, true, true, true, true, true, true, true, true, true, false, false, false, false] rfl rfl (one_of HT_.out (by kernel_rfl)) (by decide) (fun K hK => ?_)
                          refine goes_ Try.func15 (by kernel_rfl) rfl #[.int .u8 a2] (by rfl) rfl rfl (by (try simp only [List.map_toArray, List.map_cons, List.map_nil]); first | done | rfl | (simp only [List.length_drop, List.length_take]; rfl)) ?_
                          with_reducible refine (nibble_Path.calls kj10 a2 t292 t293 t294 t295 t296 t297 t298 t299 _ A82.out).mono ?_
                          rintro e w114 ⟨rfl, hb⟩
                          refine ⟨_, rfl, ?_⟩
                          have n0_ := Aside0.mk (Kd.R_below (by (with_reducible repeat (first | apply Kd.R_alloc | apply Kd.R_drewN | apply Kd.R_drew)); exact HO276.out) hb)
                          have n1_ := Aside0.mk (Kd.R_below (by (with_reducible repeat (first | apply Kd.R_alloc | apply Kd.R_drewN | apply Kd.R_drew)); exact HO280.out) hb)
                          have n2_ := Aside0.mk (blk_below (g := gb255) (o := .cells #[.int .i64 a0_0] 23 (0, 0)) (by (with_reducible repeat (first | refine blk_drewN ?_ _ | refine blk_drew ?_ | refine blk_alloc ?_ _)); exact BK255.out) hb)
                          have n3_ := Aside0.mk (blk_below (g := gb260) (o := .cells #[.int .i64 t256] 23 (0, 0)) (by (with_reducible repeat (first | refine blk_drewN ?_ _ | refine blk_drew ?_ | refine blk_alloc ?_ _)); exact BK260.out) hb)
                          have n4_ := Aside0.mk (blk_below (g := gb265) (o := .cells #[.int .i64 t261] 23 (0, 0)) (by (with_reducible repeat (first | refine blk_drewN ?_ _ | refine blk_drew ?_ | refine blk_alloc ?_ _)); exact BK265.out) hb)
                          have n5_ := Aside0.mk (blk_below (g := gb284) (o := .cells #[.int .i64 t282] 23 (0, 0)) (by (with_reducible repeat (first | refine blk_drewN ?_ _ | refine blk_drew ?_ | refine blk_alloc ?_ _)); exact BK284.out) hb)
                          have n6_ := Aside0.mk (blk_below (g := gb287) (o := .cells #[.int .i64 t285] 23 (0, 0)) (by (with_reducible repeat (first | refine blk_drewN ?_ _ | refine blk_drew ?_ | refine blk_alloc ?_ _)); exact BK287.out) hb)
                          have n7_ := Aside0.mk (below_step (by repeat (first | (with_reducible first | exact HB.out | apply below_alloc | apply pw_below_drewN | apply below_drew1 | refine below_set ?_ GE255.out | refine below_set ?_ GE260.out | refine below_set ?_ GE265.out | refine below_set ?_ GE284.out | refine below_set ?_ GE287.out) | exact HB.out)) hb)
                          clear HO276
                          clear HO280
                          clear BK255
                          clear BK260
                          clear BK265
                          clear BK284
                          clear BK287
                          clear HB
                          have HO276 := n0_
                          have HO280 := n1_
                          have BK255 := n2_
                          have BK260 := n3_
                          have BK265 := n4_
                          have BK284 := n5_
                          have BK287 := n6_
                          have HB := n7_
                          clear n0_ n1_ n2_ n3_ n4_ n5_ n6_ n7_
                          (try clear hb)
                          (try clear hb2)
                          (try clear hk)
                          (try clear hi)
                          refine hK.out _ _ ⟨(blk_cell BK255.out 0).trans rfl, (blk_cell BK284.out 0).trans rfl, (blk_cell BK287.out 0).trans rfl⟩ (fun hHeld => ?_)
                          clear hK K
                          refine norm_ (a' := ?_) ?_ ?_
                          rotate_left
                          · show Act.put _ (some 162) _ = _
                            simp only [Act.put, List.setIfInBounds_toArray, List.set_cons_zero, List.set_cons_succ, i64_w, i32_w]
                            rfl
                          refine one_ (i := 44) (N := some 164) #[true, true, true, true, true, true, true, true, true, true, true, true, true, true, true, true, true, true, true, true, true, true, true, true, true, true, true, true, true, true, true, true, true, true, true, true, true, true, true, true, true, true, true, true, true, false, false, false] rfl rfl (one_of HT_.out (by kernel_rfl)) (by decide) (fun K hK => ?_)
                          refine goes_ Try.func25 (by kernel_rfl) rfl #[.int .u8 a2] (by rfl) rfl rfl (by (try simp only [List.map_toArray, List.map_cons, List.map_nil]); first | done | rfl | (simp only [List.length_drop, List.length_take]; rfl)) ?_
                          with_reducible refine (bitloftref14_Path.calls kj10 a2 t300 t301 t302 t303 t304 t305 t306 t307 _ A83.out).mono ?_
                          rintro e w115 ⟨rfl, hb⟩
                          refine ⟨_, rfl, ?_⟩
                          have n0_ := Aside0.mk (Kd.R_below (by (with_reducible repeat (first | apply Kd.R_alloc | apply Kd.R_drewN | apply Kd.R_drew)); exact HO276.out) hb)
                          have n1_ := Aside0.mk (Kd.R_below (by (with_reducible repeat (first | apply Kd.R_alloc | apply Kd.R_drewN | apply Kd.R_drew)); exact HO280.out) hb)
                          have n2_ := Aside0.mk (blk_below (g := gb255) (o := .cells #[.int .i64 a0_0] 23 (0, 0)) (by (with_reducible repeat (first | refine blk_drewN ?_ _ | refine blk_drew ?_ | refine blk_alloc ?_ _)); exact BK255.out) hb)
                          have n3_ := Aside0.mk (blk_below (g := gb260) (o := .cells #[.int .i64 t256] 23 (0, 0)) (by (with_reducible repeat (first | refine blk_drewN ?_ _ | refine blk_drew ?_ | refine blk_alloc ?_ _)); exact BK260.out) hb)
                          have n4_ := Aside0.mk (blk_below (g := gb265) (o := .cells #[.int .i64 t261] 23 (0, 0)) (by (with_reducible repeat (first | refine blk_drewN ?_ _ | refine blk_drew ?_ | refine blk_alloc ?_ _)); exact BK265.out) hb)
                          have n5_ := Aside0.mk (blk_below (g := gb284) (o := .cells #[.int .i64 t282] 23 (0, 0)) (by (with_reducible repeat (first | refine blk_drewN ?_ _ | refine blk_drew ?_ | refine blk_alloc ?_ _)); exact BK284.out) hb)
                          have n6_ := Aside0.mk (blk_below (g := gb287) (o := .cells #[.int .i64 t285] 23 (0, 0)) (by (with_reducible repeat (first | refine blk_drewN ?_ _ | refine blk_drew ?_ | refine blk_alloc ?_ _)); exact BK287.out) hb)
                          have n7_ := Aside0.mk (below_step (by repeat (first | (with_reducible first | exact HB.out | apply below_alloc | apply pw_below_drewN | apply below_drew1 | refine below_set ?_ GE255.out | refine below_set ?_ GE260.out | refine below_set ?_ GE265.out | refine below_set ?_ GE284.out | refine below_set ?_ GE287.out) | exact HB.out)) hb)
                          clear HO276
                          clear HO280
                          clear BK255
                          clear BK260
                          clear BK265
                          clear BK284
                          clear BK287
                          clear HB
                          have HO276 := n0_
                          have HO280 := n1_
                          have BK255 := n2_
                          have BK260 := n3_
                          have BK265 := n4_
                          have BK284 := n5_
                          have BK287 := n6_
                          have HB := n7_
                          clear n0_ n1_ n2_ n3_ n4_ n5_ n6_ n7_
                          (try clear hb)
                          (try clear hb2)
                          (try clear hk)
                          (try clear hi)
                          refine hK.out _ _ ⟨(blk_cell BK255.out 0).trans rfl, (blk_cell BK284.out 0).trans rfl, (blk_cell BK287.out 0).trans rfl⟩ (fun hHeld => ?_)
                          clear hK K
                          refine norm_ (a' := ?_) ?_ ?_
                          rotate_left
                          · show Act.put _ (some 164) _ = _
                            simp only [Act.put, List.setIfInBounds_toArray, List.set_cons_zero, List.set_cons_succ, i64_w, i32_w]
                            rfl
                          refine pure_ (i := 45) (N := some 165) (v := ?_) (a' := ?_) #[true, true, true, true, true, true, true, true, true, true, true, true, true, true, true, true, true, true, true, true, true, true, true, true, true, true, true, true, true, true, true, true, true, true, true, true, true, true, true, true, true, true, true, true, true, true, false, false] rfl rfl (any_of HT_.out (by kernel_rfl)) (fun _ _ _ h => h) (Or.inl ⟨by rfl, ?_⟩) ?_ ?_
                          rotate_left
                          · intro w'
                            go_simp
                            with_reducible rfl
                          rotate_left
                          · simp only [Act.put, List.setIfInBounds_toArray, List.set_cons_zero, List.set_cons_succ, i64_w, i32_w]
                            rfl
                          refine pure_ (i := 46) (N := some 166) (v := ?_) (a' := ?_) #[true, true, true, true, true, true, true, true, true, true, true, true, true, true, true, true, true, true, true, true, true, true, true, true, true, true, true, true, true, true, true, true, true, true, true, true, true, true, true, true, true, true, true, true, true, true, true, false] rfl rfl (any_of HT_.out (by kernel_rfl)) (fun _ _ _ h => h) (Or.inl ⟨by rfl, ?_⟩) ?_ ?_
                          rotate_left
                          · intro w'
                            go_simp
                            with_reducible rfl
                          rotate_left
                          · simp only [Act.put, List.setIfInBounds_toArray, List.set_cons_zero, List.set_cons_succ, i64_w, i32_w]
                            rfl
                          refine pure_ (i := 47) (N := some 8) (v := ?_) (a' := ?_) #[true, true, true, true, true, true, true, true, true, true, true, true, true, true, true, true, true, true, true, true, true, true, true, true, true, true, true, true, true, true, true, true, true, true, true, true, true, true, true, true, true, true, true, true, true, true, true, true] rfl rfl (any_of HT_.out (by kernel_rfl)) (fun _ _ _ h => h) (Or.inl ⟨by rfl, ?_⟩) ?_ ?_
                          rotate_left
                          · intro w'
                            go_simp
                            with_reducible rfl
                          rotate_left
                          · simp only [Act.put, List.setIfInBounds_toArray, List.set_cons_zero, List.set_cons_succ, i64_w, i32_w]
                            rfl
                          refine done_ (done_of HT_.out (by kernel_rfl)) ?_
                          try go_wp2
                          go_ret
                          exact ⟨by first | rfl | (simp [errW_none, errW_some] <;> rfl) | (simp [*, errW_none, errW_some] <;> rfl), by repeat (first | (with_reducible first | exact HB.out | apply below_alloc | apply pw_below_drewN | apply below_drew1 | refine below_set ?_ GE255.out | refine below_set ?_ GE260.out | refine below_set ?_ GE265.out | refine below_set ?_ GE284.out | refine below_set ?_ GE287.out) | exact HB.out)⟩
                        · rw [if_neg c81] at H
                          exact absurd H (by simp)
                      · rw [if_neg c80] at H
                        exact absurd H (by simp)
                    · rw [if_neg c79] at H
                      exact absurd H (by simp)
                  · replace c78 := Bool.eq_false_iff.mpr c78
                    subst c78
                    have H1 : (none) = some r := by rw [if_neg (show ¬ (false = true) by decide)] at H; exact H
                    clear H
                    have H := H1
                    clear H1
                    exact absurd H (by simp)
                · rw [if_neg c76] at H
                  exact absurd H (by simp)
              · rw [if_neg c75] at H
                exact absurd H (by simp)
            · rw [if_neg c74] at H
              exact absurd H (by simp)
          · rw [if_neg c71] at H
            exact absurd H (by simp)

end Go.Proofs.Ytnbfpchbaghmfaa.QN1
