/- The walks of the law TreeWays. Written by wip/s1/mkways.py. -/
import Derived.Test.YtbldecdipicddaaDoorHFit
import Derived.Test.YtbldecdipicddaaDoorOwnPut
import Derived.Test.YtbldecdipicddaaDoorTreeLaw
set_option linter.unusedSimpArgs false
set_option linter.unusedVariables false
namespace Go.Proofs.YtbldecdipicddaaDoor.Hand
open Go Go.RowKit Go.Proofs.YtbldecdipicddaaDoorW.PrintWords Go.Proofs.YtbldecdipicddaaDoorW.PrintLast
theorem dgn_step (k q : Nat) (h : 0 < q) : dgn (k + 1) q = 1 + dgn k (q / 2) := by rw [dgn, if_neg (by omega)]
theorem pow_gt {k : Nat} : ∀ {m : Nat}, 0 < k → k < 2 ^ m → 0 < m
  | 0, h, h2 => by rw [Nat.pow_zero] at h2; omega
  | m + 1, _, _ => Nat.succ_pos m
theorem dgn_end (k : Nat) : dgn k 0 = 0 := by cases k <;> rfl
set_option maxHeartbeats 3200000 in
set_option maxRecDepth 100000 in
theorem ways_low (n i : Int) (A : Option Addr) (c : Nat) (ll : List (List Int)) (p q : Int) (w : World) (hT : TabQ w) (hal : ∀ W : World, TabQ W → Calls Tryd.prog 33 #[] W fun e w' => e = .returned (.bool true) ∧ Below W.heap.size W w') (hw : n < 1) :
    Calls Tryd.prog 9 #[.int .i64 n, .int .i64 i, .slice A ll.length c, .int .i64 p, .int .i64 q] w fun e w' => e = .returned (.bool true) ∧ Below w.heap.size w w' := by
  have HhT := Aside0.mk hT
  have Hhal := Aside0.mk hal
  have n1a : ((n : Int) < (1 : Int)) = True := eq_true (by omega)
  have n1b : ((1 : Int) ≤ (n : Int)) = False := eq_false (by omega)
  clear hT hal hw
  go_enter Tryd.func9, Tryd.ntmps9
  go_wp2_with fail
  refine (Hhal.out w (HhT.out.at (Below.refl _ _))).mono ?_
  rintro e w1 ⟨rfl, hb_⟩
  have B2 := Aside0.mk (hb_)
  clear hb_
  go_wp2_with fail
  go_ret
  exact ⟨rfl, B2.out⟩
set_option maxHeartbeats 3200000 in
set_option maxRecDepth 100000 in
theorem ways_high (n i : Int) (A : Option Addr) (c : Nat) (ll : List (List Int)) (p q : Int) (w : World) (hT : TabQ w) (hal : ∀ W : World, TabQ W → Calls Tryd.prog 33 #[] W fun e w' => e = .returned (.bool true) ∧ Below W.heap.size W w') (hw : 600 < n) :
    Calls Tryd.prog 9 #[.int .i64 n, .int .i64 i, .slice A ll.length c, .int .i64 p, .int .i64 q] w fun e w' => e = .returned (.bool true) ∧ Below w.heap.size w w' := by
  have HhT := Aside0.mk hT
  have Hhal := Aside0.mk hal
  have n1a : ((n : Int) < (1 : Int)) = False := eq_false (by omega)
  have n1b : ((1 : Int) ≤ (n : Int)) = True := eq_true (by omega)
  have n6a : ((600 : Int) < (n : Int)) = True := eq_true (by omega)
  have n6b : ((n : Int) ≤ (600 : Int)) = False := eq_false (by omega)
  clear hT hal hw
  go_enter Tryd.func9, Tryd.ntmps9
  go_wp2_with fail
  refine (Hhal.out w (HhT.out.at (Below.refl _ _))).mono ?_
  rintro e w1 ⟨rfl, hb_⟩
  have B2 := Aside0.mk (hb_)
  clear hb_
  go_wp2_with fail
  go_ret
  exact ⟨rfl, B2.out⟩
set_option maxHeartbeats 3200000 in
set_option maxRecDepth 100000 in
theorem ways_neg (n i : Int) (A : Option Addr) (c : Nat) (ll : List (List Int)) (p q : Int) (w : World) (hT : TabQ w) (hal : ∀ W : World, TabQ W → Calls Tryd.prog 33 #[] W fun e w' => e = .returned (.bool true) ∧ Below W.heap.size W w') (hw : 1 ≤ n ∧ n ≤ 600 ∧ i < 0) :
    Calls Tryd.prog 9 #[.int .i64 n, .int .i64 i, .slice A ll.length c, .int .i64 p, .int .i64 q] w fun e w' => e = .returned (.bool true) ∧ Below w.heap.size w w' := by
  have HhT := Aside0.mk hT
  have Hhal := Aside0.mk hal
  have n1a : ((n : Int) < (1 : Int)) = False := eq_false (by omega)
  have n1b : ((1 : Int) ≤ (n : Int)) = True := eq_true (by omega)
  have n6a : ((600 : Int) < (n : Int)) = False := eq_false (by omega)
  have n6b : ((n : Int) ≤ (600 : Int)) = True := eq_true (by omega)
  have i0a : ((i : Int) < (0 : Int)) = True := eq_true (by omega)
  have i0b : ((0 : Int) ≤ (i : Int)) = False := eq_false (by omega)
  clear hT hal hw
  go_enter Tryd.func9, Tryd.ntmps9
  go_wp2_with fail
  refine (Hhal.out w (HhT.out.at (Below.refl _ _))).mono ?_
  rintro e w1 ⟨rfl, hb_⟩
  have B2 := Aside0.mk (hb_)
  clear hb_
  go_wp2_with fail
  go_ret
  exact ⟨rfl, B2.out⟩
set_option maxHeartbeats 3200000 in
set_option maxRecDepth 100000 in
theorem ways_big (n i : Int) (A : Option Addr) (c : Nat) (ll : List (List Int)) (p q : Int) (w : World) (hT : TabQ w) (hal : ∀ W : World, TabQ W → Calls Tryd.prog 33 #[] W fun e w' => e = .returned (.bool true) ∧ Below W.heap.size W w') (hw : 1 ≤ n ∧ n ≤ 600 ∧ 0 ≤ i ∧ n ≤ i) :
    Calls Tryd.prog 9 #[.int .i64 n, .int .i64 i, .slice A ll.length c, .int .i64 p, .int .i64 q] w fun e w' => e = .returned (.bool true) ∧ Below w.heap.size w w' := by
  have HhT := Aside0.mk hT
  have Hhal := Aside0.mk hal
  have n1a : ((n : Int) < (1 : Int)) = False := eq_false (by omega)
  have n1b : ((1 : Int) ≤ (n : Int)) = True := eq_true (by omega)
  have n6a : ((600 : Int) < (n : Int)) = False := eq_false (by omega)
  have n6b : ((n : Int) ≤ (600 : Int)) = True := eq_true (by omega)
  have i0a : ((i : Int) < (0 : Int)) = False := eq_false (by omega)
  have i0b : ((0 : Int) ≤ (i : Int)) = True := eq_true (by omega)
  have ina : ((i : Int) < (n : Int)) = False := eq_false (by omega)
  have inb : ((n : Int) ≤ (i : Int)) = True := eq_true (by omega)
  clear hT hal hw
  go_enter Tryd.func9, Tryd.ntmps9
  go_wp2_with fail
  refine (Hhal.out w (HhT.out.at (Below.refl _ _))).mono ?_
  rintro e w1 ⟨rfl, hb_⟩
  have B2 := Aside0.mk (hb_)
  clear hb_
  go_wp2_with fail
  go_ret
  exact ⟨rfl, B2.out⟩
set_option maxHeartbeats 3200000 in
set_option maxRecDepth 100000 in
theorem ways_nofit (n i : Nat) (A : Option Addr) (c : Nat) (ll : List (List Int)) (p : Int) (q : Int) (w : World) (hT : TabQ w) (hr : Kd.C (Kd.slice 5 (Kd.int .u8)) w A ll.length ll) (hlc : ll.length ≤ c) (hal : ∀ W : World, TabQ W → Calls Tryd.prog 33 #[] W fun e w' => e = .returned (.bool true) ∧ Below W.heap.size W w') (hni : 1 ≤ n ∧ n ≤ 600 ∧ i < n) (s1 s2 : Nat) (hs1 : s1 ≤ dgn 20 (n - 1)) (hs2 : s2 ≤ s1) (h37a : ∀ W : World, Calls Tryd.prog 37 #[.int .i64 (n : Int), .int .i64 (i : Int)] W fun e w' => e = .returned (.tuple #[.int .i64 (s1 : Int), .int .i64 0]) ∧ Below W.heap.size W w') (h37b : ∀ W : World, Calls Tryd.prog 37 #[.int .i64 (n : Int), .int .i64 ((n - 1 : Nat) : Int)] W fun e w' => e = .returned (.tuple #[.int .i64 (s2 : Int), .int .i64 0]) ∧ Below W.heap.size W w') (hf : fitb ll = false) (hw : True) :
    Calls Tryd.prog 9 #[.int .i64 (n : Int), .int .i64 (i : Int), .slice A ll.length c, .int .i64 p, .int .i64 q] w fun e w' => e = .returned (.bool true) ∧ Below w.heap.size w w' := by
  have HhT := Aside0.mk hT
  have Hhr := Aside0.mk hr
  have Hhlc := Aside0.mk hlc
  have Hhal := Aside0.mk hal
  have Hhni := Aside0.mk hni
  have Hhs1 := Aside0.mk hs1
  have Hhs2 := Aside0.mk hs2
  have Hh37a := Aside0.mk h37a
  have Hh37b := Aside0.mk h37b
  have Hhf := Aside0.mk hf
  have n1a : ((((n : Nat) : Int) : Int) < (1 : Int)) = False := eq_false (by omega)
  have n1b : ((1 : Int) ≤ (((n : Nat) : Int) : Int)) = True := eq_true (by omega)
  have n6a : ((600 : Int) < (((n : Nat) : Int) : Int)) = False := eq_false (by omega)
  have n6b : ((((n : Nat) : Int) : Int) ≤ (600 : Int)) = True := eq_true (by omega)
  have i0a : ((((i : Nat) : Int) : Int) < (0 : Int)) = False := eq_false (by omega)
  have i0b : ((0 : Int) ≤ (((i : Nat) : Int) : Int)) = True := eq_true (by omega)
  have ina : ((((i : Nat) : Int) : Int) < (((n : Nat) : Int) : Int)) = True := eq_true (by omega)
  have inb : ((((n : Nat) : Int) : Int) ≤ (((i : Nat) : Int) : Int)) = False := eq_false (by omega)
  have n1c : (n < 1) = False := eq_false (by omega)
  have n1d : (1 ≤ n) = True := eq_true (by omega)
  have n6c : (600 < n) = False := eq_false (by omega)
  have n6d : (n ≤ 600) = True := eq_true (by omega)
  have inc : (i < n) = True := eq_true (by omega)
  have ind : (n ≤ i) = False := eq_false (by omega)
  have u1 : wrap64 ((n : Int) - 1) = ((n - 1 : Nat) : Int) := by unfold wrap64; omega
  obtain ⟨n1, hn1⟩ : ∃ x : Nat, x = n - 1 := ⟨_, rfl⟩
  rw [← hn1] at u1
  have HN1 := Aside0.mk hn1
  rw [← hn1] at h37b hs1
  have Hh37b := Aside0.mk h37b
  have Hhs1 := Aside0.mk hs1
  clear hn1 hT hr hlc hal hni hs1 hs2 h37a h37b hf hw 
  go_enter Tryd.func9, Tryd.ntmps9
  go_wp2_with fail
  refine (Hhal.out w (HhT.out.at (Below.refl _ _))).mono ?_
  rintro e w1 ⟨rfl, hb_⟩
  have B2 := Aside0.mk (hb_)
  clear hb_
  go_wp2_with fail
  refine (Hh37a.out w1).mono ?_
  rintro e w3 ⟨rfl, hb_⟩
  have B4 := Aside0.mk (below_step B2.out hb_)
  clear hb_ B2
  go_wp2_with fail
  refine (Hh37b.out w3).mono ?_
  rintro e w5 ⟨rfl, hb_⟩
  have B6 := Aside0.mk (below_step B4.out hb_)
  clear hb_ B4
  go_wp2_with fail
  go_loopg [16, 17] 20 (fun m v16 v17 w1 => ∃ (d k : Nat), v16 = .int .i64 (d : Int) ∧ v17 = .int .i64 (k : Int) ∧ Aside0 (d + dgn m k = dgn 20 n1) ∧ Aside0 (k < 2 ^ m) ∧ Aside0 (d + m = 20 ∧ k ≤ 1000) ∧ Aside0 (w1 = w5))
  case atStart => exact ⟨0, n1, rfl, (by first | rfl | rw [u1]), ⟨by omega⟩, ⟨by have := HN1.out; have := Hhni.out; omega⟩, ⟨by have := HN1.out; have := Hhni.out; omega⟩, ⟨rfl⟩⟩
  case round =>
    obtain ⟨d, k, rfl, rfl, HD, HP, HK, HW⟩ := hrel
    by_cases hk : 0 < k
    · obtain ⟨go, rfl⟩ : ∃ j, gk = j + 1 := ⟨gk - 1, by have := pow_gt hk HP.out; omega⟩
      have k1 : (0 < (k : Int)) = True := eq_true (by omega)
      have k2 : (0 < k) = True := eq_true hk
      have u2 : Int.tdiv (k : Int) 2 = ((k / 2 : Nat) : Int) := by rw [Int.tdiv_eq_ediv_of_nonneg (by omega)]; rfl
      have u3 : wrap64 ((k / 2 : Nat) : Int) = ((k / 2 : Nat) : Int) := by have := HK.out; unfold wrap64; omega
      have u4 : wrap64 ((d : Int) + 1) = ((d + 1 : Nat) : Int) := by have := HK.out; unfold wrap64; omega
      obtain ⟨k3, hk3⟩ : ∃ x : Nat, x = k / 2 := ⟨_, rfl⟩
      rw [← hk3] at u2 u3
      obtain ⟨d3, hd3⟩ : ∃ x : Nat, x = d + 1 := ⟨_, rfl⟩
      rw [← hd3] at u4
      have HK3 := Aside0.mk hk3
      have HD3 := Aside0.mk hd3
      have HKP := Aside0.mk hk
      clear hk hk3 hd3
      go_wp2_with fail
      go_roundg go
      case measure => have := HK.out; omega
      case rel => exact ⟨d3, k3, (by first | rfl | rw [u4]), (by first | rfl | rw [u3] | rw [u2] | rw [u2, u3]), ⟨by have := HD.out; rw [dgn_step _ _ HKP.out] at this; rw [HK3.out, HD3.out]; omega⟩, ⟨by have := HP.out; rw [HK3.out]; rw [Nat.pow_succ] at this; omega⟩, ⟨by have := HK.out; have := HK3.out; have := HD3.out; omega⟩, HW⟩
    · have HE : Aside0 (d = dgn 20 n1) := ⟨by have := HD.out; rw [show k = 0 by omega, dgn_end] at this; omega⟩
      have k1 : (0 < (k : Int)) = False := eq_false (by omega)
      have k2 : (0 < k) = False := eq_false hk
      have e1 : ((d : Int) < (s1 : Int)) = False := eq_false (by have := HE.out; have := Hhs1.out; omega)
      have e2 : (d < s1) = False := eq_false (by have := HE.out; have := Hhs1.out; omega)
      have e3 : ((s1 : Int) < (s2 : Int)) = False := eq_false (by have := Hhs2.out; omega)
      have e4 : (s1 < s2) = False := eq_false (by have := Hhs2.out; omega)
      clear hk
      obtain rfl := HW.out
      go_wp2_with fail
      refine (fit_calls A c ll _ (Kd.C_below Hhr.out B6.out) Hhlc.out).mono ?_
      rintro e w107 ⟨rfl, hw_⟩
      obtain rfl : wr = w107 := hw_.symm
      rw [Hhf.out]
      go_wp2_with fail
      go_ret
      exact ⟨rfl, B6.out⟩
set_option maxHeartbeats 3200000 in
set_option maxRecDepth 100000 in
theorem ways_atneg (n i : Nat) (A : Option Addr) (c : Nat) (ll : List (List Int)) (p : Int) (q : Int) (w : World) (hT : TabQ w) (hr : Kd.C (Kd.slice 5 (Kd.int .u8)) w A ll.length ll) (hlc : ll.length ≤ c) (hal : ∀ W : World, TabQ W → Calls Tryd.prog 33 #[] W fun e w' => e = .returned (.bool true) ∧ Below W.heap.size W w') (hni : 1 ≤ n ∧ n ≤ 600 ∧ i < n) (s1 s2 : Nat) (hs1 : s1 ≤ dgn 20 (n - 1)) (hs2 : s2 ≤ s1) (h37a : ∀ W : World, Calls Tryd.prog 37 #[.int .i64 (n : Int), .int .i64 (i : Int)] W fun e w' => e = .returned (.tuple #[.int .i64 (s1 : Int), .int .i64 0]) ∧ Below W.heap.size W w') (h37b : ∀ W : World, Calls Tryd.prog 37 #[.int .i64 (n : Int), .int .i64 ((n - 1 : Nat) : Int)] W fun e w' => e = .returned (.tuple #[.int .i64 (s2 : Int), .int .i64 0]) ∧ Below W.heap.size W w') (hf : fitb ll = true) (hw : p < 0) :
    Calls Tryd.prog 9 #[.int .i64 (n : Int), .int .i64 (i : Int), .slice A ll.length c, .int .i64 p, .int .i64 q] w fun e w' => e = .returned (.bool true) ∧ Below w.heap.size w w' := by
  have HhT := Aside0.mk hT
  have Hhr := Aside0.mk hr
  have Hhlc := Aside0.mk hlc
  have Hhal := Aside0.mk hal
  have Hhni := Aside0.mk hni
  have Hhs1 := Aside0.mk hs1
  have Hhs2 := Aside0.mk hs2
  have Hh37a := Aside0.mk h37a
  have Hh37b := Aside0.mk h37b
  have Hhf := Aside0.mk hf
  have n1a : ((((n : Nat) : Int) : Int) < (1 : Int)) = False := eq_false (by omega)
  have n1b : ((1 : Int) ≤ (((n : Nat) : Int) : Int)) = True := eq_true (by omega)
  have n6a : ((600 : Int) < (((n : Nat) : Int) : Int)) = False := eq_false (by omega)
  have n6b : ((((n : Nat) : Int) : Int) ≤ (600 : Int)) = True := eq_true (by omega)
  have i0a : ((((i : Nat) : Int) : Int) < (0 : Int)) = False := eq_false (by omega)
  have i0b : ((0 : Int) ≤ (((i : Nat) : Int) : Int)) = True := eq_true (by omega)
  have ina : ((((i : Nat) : Int) : Int) < (((n : Nat) : Int) : Int)) = True := eq_true (by omega)
  have inb : ((((n : Nat) : Int) : Int) ≤ (((i : Nat) : Int) : Int)) = False := eq_false (by omega)
  have n1c : (n < 1) = False := eq_false (by omega)
  have n1d : (1 ≤ n) = True := eq_true (by omega)
  have n6c : (600 < n) = False := eq_false (by omega)
  have n6d : (n ≤ 600) = True := eq_true (by omega)
  have inc : (i < n) = True := eq_true (by omega)
  have ind : (n ≤ i) = False := eq_false (by omega)
  have p0a : ((p : Int) < (0 : Int)) = True := eq_true (by omega)
  have p0b : ((0 : Int) ≤ (p : Int)) = False := eq_false (by omega)
  have u1 : wrap64 ((n : Int) - 1) = ((n - 1 : Nat) : Int) := by unfold wrap64; omega
  obtain ⟨n1, hn1⟩ : ∃ x : Nat, x = n - 1 := ⟨_, rfl⟩
  rw [← hn1] at u1
  have HN1 := Aside0.mk hn1
  rw [← hn1] at h37b hs1
  have Hh37b := Aside0.mk h37b
  have Hhs1 := Aside0.mk hs1
  clear hn1 hT hr hlc hal hni hs1 hs2 h37a h37b hf hw 
  go_enter Tryd.func9, Tryd.ntmps9
  go_wp2_with fail
  refine (Hhal.out w (HhT.out.at (Below.refl _ _))).mono ?_
  rintro e w1 ⟨rfl, hb_⟩
  have B2 := Aside0.mk (hb_)
  clear hb_
  go_wp2_with fail
  refine (Hh37a.out w1).mono ?_
  rintro e w3 ⟨rfl, hb_⟩
  have B4 := Aside0.mk (below_step B2.out hb_)
  clear hb_ B2
  go_wp2_with fail
  refine (Hh37b.out w3).mono ?_
  rintro e w5 ⟨rfl, hb_⟩
  have B6 := Aside0.mk (below_step B4.out hb_)
  clear hb_ B4
  go_wp2_with fail
  go_loopg [16, 17] 20 (fun m v16 v17 w1 => ∃ (d k : Nat), v16 = .int .i64 (d : Int) ∧ v17 = .int .i64 (k : Int) ∧ Aside0 (d + dgn m k = dgn 20 n1) ∧ Aside0 (k < 2 ^ m) ∧ Aside0 (d + m = 20 ∧ k ≤ 1000) ∧ Aside0 (w1 = w5))
  case atStart => exact ⟨0, n1, rfl, (by first | rfl | rw [u1]), ⟨by omega⟩, ⟨by have := HN1.out; have := Hhni.out; omega⟩, ⟨by have := HN1.out; have := Hhni.out; omega⟩, ⟨rfl⟩⟩
  case round =>
    obtain ⟨d, k, rfl, rfl, HD, HP, HK, HW⟩ := hrel
    by_cases hk : 0 < k
    · obtain ⟨go, rfl⟩ : ∃ j, gk = j + 1 := ⟨gk - 1, by have := pow_gt hk HP.out; omega⟩
      have k1 : (0 < (k : Int)) = True := eq_true (by omega)
      have k2 : (0 < k) = True := eq_true hk
      have u2 : Int.tdiv (k : Int) 2 = ((k / 2 : Nat) : Int) := by rw [Int.tdiv_eq_ediv_of_nonneg (by omega)]; rfl
      have u3 : wrap64 ((k / 2 : Nat) : Int) = ((k / 2 : Nat) : Int) := by have := HK.out; unfold wrap64; omega
      have u4 : wrap64 ((d : Int) + 1) = ((d + 1 : Nat) : Int) := by have := HK.out; unfold wrap64; omega
      obtain ⟨k3, hk3⟩ : ∃ x : Nat, x = k / 2 := ⟨_, rfl⟩
      rw [← hk3] at u2 u3
      obtain ⟨d3, hd3⟩ : ∃ x : Nat, x = d + 1 := ⟨_, rfl⟩
      rw [← hd3] at u4
      have HK3 := Aside0.mk hk3
      have HD3 := Aside0.mk hd3
      have HKP := Aside0.mk hk
      clear hk hk3 hd3
      go_wp2_with fail
      go_roundg go
      case measure => have := HK.out; omega
      case rel => exact ⟨d3, k3, (by first | rfl | rw [u4]), (by first | rfl | rw [u3] | rw [u2] | rw [u2, u3]), ⟨by have := HD.out; rw [dgn_step _ _ HKP.out] at this; rw [HK3.out, HD3.out]; omega⟩, ⟨by have := HP.out; rw [HK3.out]; rw [Nat.pow_succ] at this; omega⟩, ⟨by have := HK.out; have := HK3.out; have := HD3.out; omega⟩, HW⟩
    · have HE : Aside0 (d = dgn 20 n1) := ⟨by have := HD.out; rw [show k = 0 by omega, dgn_end] at this; omega⟩
      have k1 : (0 < (k : Int)) = False := eq_false (by omega)
      have k2 : (0 < k) = False := eq_false hk
      have e1 : ((d : Int) < (s1 : Int)) = False := eq_false (by have := HE.out; have := Hhs1.out; omega)
      have e2 : (d < s1) = False := eq_false (by have := HE.out; have := Hhs1.out; omega)
      have e3 : ((s1 : Int) < (s2 : Int)) = False := eq_false (by have := Hhs2.out; omega)
      have e4 : (s1 < s2) = False := eq_false (by have := Hhs2.out; omega)
      clear hk
      obtain rfl := HW.out
      go_wp2_with fail
      refine (fit_calls A c ll _ (Kd.C_below Hhr.out B6.out) Hhlc.out).mono ?_
      rintro e w107 ⟨rfl, hw_⟩
      obtain rfl : wr = w107 := hw_.symm
      rw [Hhf.out]
      go_wp2_with fail
      go_ret
      exact ⟨rfl, B6.out⟩
set_option maxHeartbeats 3200000 in
set_option maxRecDepth 100000 in
theorem ways_atbig (n i : Nat) (A : Option Addr) (c : Nat) (ll : List (List Int)) (p : Int) (q : Int) (w : World) (hT : TabQ w) (hr : Kd.C (Kd.slice 5 (Kd.int .u8)) w A ll.length ll) (hlc : ll.length ≤ c) (hal : ∀ W : World, TabQ W → Calls Tryd.prog 33 #[] W fun e w' => e = .returned (.bool true) ∧ Below W.heap.size W w') (hni : 1 ≤ n ∧ n ≤ 600 ∧ i < n) (s1 s2 : Nat) (hs1 : s1 ≤ dgn 20 (n - 1)) (hs2 : s2 ≤ s1) (h37a : ∀ W : World, Calls Tryd.prog 37 #[.int .i64 (n : Int), .int .i64 (i : Int)] W fun e w' => e = .returned (.tuple #[.int .i64 (s1 : Int), .int .i64 0]) ∧ Below W.heap.size W w') (h37b : ∀ W : World, Calls Tryd.prog 37 #[.int .i64 (n : Int), .int .i64 ((n - 1 : Nat) : Int)] W fun e w' => e = .returned (.tuple #[.int .i64 (s2 : Int), .int .i64 0]) ∧ Below W.heap.size W w') (hf : fitb ll = true) (hw : 0 ≤ p ∧ (ll.length : Int) ≤ p) :
    Calls Tryd.prog 9 #[.int .i64 (n : Int), .int .i64 (i : Int), .slice A ll.length c, .int .i64 p, .int .i64 q] w fun e w' => e = .returned (.bool true) ∧ Below w.heap.size w w' := by
  have HhT := Aside0.mk hT
  have Hhr := Aside0.mk hr
  have Hhlc := Aside0.mk hlc
  have Hhal := Aside0.mk hal
  have Hhni := Aside0.mk hni
  have Hhs1 := Aside0.mk hs1
  have Hhs2 := Aside0.mk hs2
  have Hh37a := Aside0.mk h37a
  have Hh37b := Aside0.mk h37b
  have Hhf := Aside0.mk hf
  have n1a : ((((n : Nat) : Int) : Int) < (1 : Int)) = False := eq_false (by omega)
  have n1b : ((1 : Int) ≤ (((n : Nat) : Int) : Int)) = True := eq_true (by omega)
  have n6a : ((600 : Int) < (((n : Nat) : Int) : Int)) = False := eq_false (by omega)
  have n6b : ((((n : Nat) : Int) : Int) ≤ (600 : Int)) = True := eq_true (by omega)
  have i0a : ((((i : Nat) : Int) : Int) < (0 : Int)) = False := eq_false (by omega)
  have i0b : ((0 : Int) ≤ (((i : Nat) : Int) : Int)) = True := eq_true (by omega)
  have ina : ((((i : Nat) : Int) : Int) < (((n : Nat) : Int) : Int)) = True := eq_true (by omega)
  have inb : ((((n : Nat) : Int) : Int) ≤ (((i : Nat) : Int) : Int)) = False := eq_false (by omega)
  have n1c : (n < 1) = False := eq_false (by omega)
  have n1d : (1 ≤ n) = True := eq_true (by omega)
  have n6c : (600 < n) = False := eq_false (by omega)
  have n6d : (n ≤ 600) = True := eq_true (by omega)
  have inc : (i < n) = True := eq_true (by omega)
  have ind : (n ≤ i) = False := eq_false (by omega)
  have p0a : ((p : Int) < (0 : Int)) = False := eq_false (by omega)
  have p0b : ((0 : Int) ≤ (p : Int)) = True := eq_true (by omega)
  have pna : ((p : Int) < (((ll.length : Nat) : Int) : Int)) = False := eq_false (by omega)
  have pnb : ((((ll.length : Nat) : Int) : Int) ≤ (p : Int)) = True := eq_true (by omega)
  have u1 : wrap64 ((n : Int) - 1) = ((n - 1 : Nat) : Int) := by unfold wrap64; omega
  obtain ⟨n1, hn1⟩ : ∃ x : Nat, x = n - 1 := ⟨_, rfl⟩
  rw [← hn1] at u1
  have HN1 := Aside0.mk hn1
  rw [← hn1] at h37b hs1
  have Hh37b := Aside0.mk h37b
  have Hhs1 := Aside0.mk hs1
  clear hn1 hT hr hlc hal hni hs1 hs2 h37a h37b hf hw 
  go_enter Tryd.func9, Tryd.ntmps9
  go_wp2_with fail
  refine (Hhal.out w (HhT.out.at (Below.refl _ _))).mono ?_
  rintro e w1 ⟨rfl, hb_⟩
  have B2 := Aside0.mk (hb_)
  clear hb_
  go_wp2_with fail
  refine (Hh37a.out w1).mono ?_
  rintro e w3 ⟨rfl, hb_⟩
  have B4 := Aside0.mk (below_step B2.out hb_)
  clear hb_ B2
  go_wp2_with fail
  refine (Hh37b.out w3).mono ?_
  rintro e w5 ⟨rfl, hb_⟩
  have B6 := Aside0.mk (below_step B4.out hb_)
  clear hb_ B4
  go_wp2_with fail
  go_loopg [16, 17] 20 (fun m v16 v17 w1 => ∃ (d k : Nat), v16 = .int .i64 (d : Int) ∧ v17 = .int .i64 (k : Int) ∧ Aside0 (d + dgn m k = dgn 20 n1) ∧ Aside0 (k < 2 ^ m) ∧ Aside0 (d + m = 20 ∧ k ≤ 1000) ∧ Aside0 (w1 = w5))
  case atStart => exact ⟨0, n1, rfl, (by first | rfl | rw [u1]), ⟨by omega⟩, ⟨by have := HN1.out; have := Hhni.out; omega⟩, ⟨by have := HN1.out; have := Hhni.out; omega⟩, ⟨rfl⟩⟩
  case round =>
    obtain ⟨d, k, rfl, rfl, HD, HP, HK, HW⟩ := hrel
    by_cases hk : 0 < k
    · obtain ⟨go, rfl⟩ : ∃ j, gk = j + 1 := ⟨gk - 1, by have := pow_gt hk HP.out; omega⟩
      have k1 : (0 < (k : Int)) = True := eq_true (by omega)
      have k2 : (0 < k) = True := eq_true hk
      have u2 : Int.tdiv (k : Int) 2 = ((k / 2 : Nat) : Int) := by rw [Int.tdiv_eq_ediv_of_nonneg (by omega)]; rfl
      have u3 : wrap64 ((k / 2 : Nat) : Int) = ((k / 2 : Nat) : Int) := by have := HK.out; unfold wrap64; omega
      have u4 : wrap64 ((d : Int) + 1) = ((d + 1 : Nat) : Int) := by have := HK.out; unfold wrap64; omega
      obtain ⟨k3, hk3⟩ : ∃ x : Nat, x = k / 2 := ⟨_, rfl⟩
      rw [← hk3] at u2 u3
      obtain ⟨d3, hd3⟩ : ∃ x : Nat, x = d + 1 := ⟨_, rfl⟩
      rw [← hd3] at u4
      have HK3 := Aside0.mk hk3
      have HD3 := Aside0.mk hd3
      have HKP := Aside0.mk hk
      clear hk hk3 hd3
      go_wp2_with fail
      go_roundg go
      case measure => have := HK.out; omega
      case rel => exact ⟨d3, k3, (by first | rfl | rw [u4]), (by first | rfl | rw [u3] | rw [u2] | rw [u2, u3]), ⟨by have := HD.out; rw [dgn_step _ _ HKP.out] at this; rw [HK3.out, HD3.out]; omega⟩, ⟨by have := HP.out; rw [HK3.out]; rw [Nat.pow_succ] at this; omega⟩, ⟨by have := HK.out; have := HK3.out; have := HD3.out; omega⟩, HW⟩
    · have HE : Aside0 (d = dgn 20 n1) := ⟨by have := HD.out; rw [show k = 0 by omega, dgn_end] at this; omega⟩
      have k1 : (0 < (k : Int)) = False := eq_false (by omega)
      have k2 : (0 < k) = False := eq_false hk
      have e1 : ((d : Int) < (s1 : Int)) = False := eq_false (by have := HE.out; have := Hhs1.out; omega)
      have e2 : (d < s1) = False := eq_false (by have := HE.out; have := Hhs1.out; omega)
      have e3 : ((s1 : Int) < (s2 : Int)) = False := eq_false (by have := Hhs2.out; omega)
      have e4 : (s1 < s2) = False := eq_false (by have := Hhs2.out; omega)
      clear hk
      obtain rfl := HW.out
      go_wp2_with fail
      refine (fit_calls A c ll _ (Kd.C_below Hhr.out B6.out) Hhlc.out).mono ?_
      rintro e w107 ⟨rfl, hw_⟩
      obtain rfl : wr = w107 := hw_.symm
      rw [Hhf.out]
      go_wp2_with fail
      go_ret
      exact ⟨rfl, B6.out⟩
set_option maxHeartbeats 3200000 in
set_option maxRecDepth 100000 in
theorem ways_stneg (n i : Nat) (ad : Addr) (c : Nat) (ll : List (List Int)) (p : Nat) (q : Int) (w : World) (hT : TabQ w) (hr : Kd.C (Kd.slice 5 (Kd.int .u8)) w (some ad) ll.length ll) (hlc : ll.length ≤ c) (hal : ∀ W : World, TabQ W → Calls Tryd.prog 33 #[] W fun e w' => e = .returned (.bool true) ∧ Below W.heap.size W w') (hni : 1 ≤ n ∧ n ≤ 600 ∧ i < n) (s1 s2 : Nat) (hs1 : s1 ≤ dgn 20 (n - 1)) (hs2 : s2 ≤ s1) (h37a : ∀ W : World, Calls Tryd.prog 37 #[.int .i64 (n : Int), .int .i64 (i : Int)] W fun e w' => e = .returned (.tuple #[.int .i64 (s1 : Int), .int .i64 0]) ∧ Below W.heap.size W w') (h37b : ∀ W : World, Calls Tryd.prog 37 #[.int .i64 (n : Int), .int .i64 ((n - 1 : Nat) : Int)] W fun e w' => e = .returned (.tuple #[.int .i64 (s2 : Int), .int .i64 0]) ∧ Below W.heap.size W w') (hf : fitb ll = true) (hwp : p < ll.length) (r : Dg) (ps : List Dg) (hw : q < 0)
    (h1 : ∀ W : World, TabQ W → Below w.heap.size w W → Calls Tryd.prog 35 #[.slice (some ad) ll.length c] W fun e w' => e = .returned (.tuple #[.agg #[.int .u8 (r 0), .int .u8 (r 1), .int .u8 (r 2), .int .u8 (r 3), .int .u8 (r 4), .int .u8 (r 5), .int .u8 (r 6), .int .u8 (r 7), .int .u8 (r 8), .int .u8 (r 9), .int .u8 (r 10), .int .u8 (r 11), .int .u8 (r 12), .int .u8 (r 13), .int .u8 (r 14), .int .u8 (r 15), .int .u8 (r 16), .int .u8 (r 17), .int .u8 (r 18), .int .u8 (r 19)], .int .i64 0]) ∧ Below W.heap.size W w') (h2 : ∀ W : World, TabQ W → Below w.heap.size w W → Calls Tryd.prog 36 #[.slice (some ad) ll.length c, .int .i64 (p : Int)] W fun e w' => ∃ v0_ : Value, e = .returned (.tuple #[v0_, .int .i64 0]) ∧ Kd.R kdg 23 w' W.heap.size (fun _ => True) v0_ ps ∧ Below W.heap.size W w') :
    Calls Tryd.prog 9 #[.int .i64 (n : Int), .int .i64 (i : Int), .slice (some ad) ll.length c, .int .i64 (p : Int), .int .i64 q] w fun e w' => e = .returned (.bool true) ∧ Below w.heap.size w w' := by
  have Hhw := Aside0.mk hw
  have HhT := Aside0.mk hT
  have Hhr := Aside0.mk hr
  have Hhlc := Aside0.mk hlc
  have Hhal := Aside0.mk hal
  have Hhni := Aside0.mk hni
  have Hhs1 := Aside0.mk hs1
  have Hhs2 := Aside0.mk hs2
  have Hh37a := Aside0.mk h37a
  have Hh37b := Aside0.mk h37b
  have Hhf := Aside0.mk hf
  have Hhwp := Aside0.mk hwp
  have Hh1 := Aside0.mk h1
  have Hh2 := Aside0.mk h2
  have n1a : ((((n : Nat) : Int) : Int) < (1 : Int)) = False := eq_false (by omega)
  have n1b : ((1 : Int) ≤ (((n : Nat) : Int) : Int)) = True := eq_true (by omega)
  have n6a : ((600 : Int) < (((n : Nat) : Int) : Int)) = False := eq_false (by omega)
  have n6b : ((((n : Nat) : Int) : Int) ≤ (600 : Int)) = True := eq_true (by omega)
  have i0a : ((((i : Nat) : Int) : Int) < (0 : Int)) = False := eq_false (by omega)
  have i0b : ((0 : Int) ≤ (((i : Nat) : Int) : Int)) = True := eq_true (by omega)
  have ina : ((((i : Nat) : Int) : Int) < (((n : Nat) : Int) : Int)) = True := eq_true (by omega)
  have inb : ((((n : Nat) : Int) : Int) ≤ (((i : Nat) : Int) : Int)) = False := eq_false (by omega)
  have n1c : (n < 1) = False := eq_false (by omega)
  have n1d : (1 ≤ n) = True := eq_true (by omega)
  have n6c : (600 < n) = False := eq_false (by omega)
  have n6d : (n ≤ 600) = True := eq_true (by omega)
  have inc : (i < n) = True := eq_true (by omega)
  have ind : (n ≤ i) = False := eq_false (by omega)
  have p0a : ((((p : Nat) : Int) : Int) < (0 : Int)) = False := eq_false (by omega)
  have p0b : ((0 : Int) ≤ (((p : Nat) : Int) : Int)) = True := eq_true (by omega)
  have pna : ((((p : Nat) : Int) : Int) < (((ll.length : Nat) : Int) : Int)) = True := eq_true (by omega)
  have pnb : ((((ll.length : Nat) : Int) : Int) ≤ (((p : Nat) : Int) : Int)) = False := eq_false (by omega)
  have pnc : (p < ll.length) = True := eq_true (by omega)
  have pnd : (ll.length ≤ p) = False := eq_false (by omega)
  have q0a : ((q : Int) < (0 : Int)) = True := eq_true (by omega)
  have q0b : ((0 : Int) ≤ (q : Int)) = False := eq_false (by omega)
  have u1 : wrap64 ((n : Int) - 1) = ((n - 1 : Nat) : Int) := by unfold wrap64; omega
  obtain ⟨n1, hn1⟩ : ∃ x : Nat, x = n - 1 := ⟨_, rfl⟩
  rw [← hn1] at u1
  have HN1 := Aside0.mk hn1
  rw [← hn1] at h37b hs1
  have Hh37b := Aside0.mk h37b
  have Hhs1 := Aside0.mk hs1
  clear hn1 hT hr hlc hal hni hs1 hs2 h37a h37b hf hw hwp h1 h2
  go_enter Tryd.func9, Tryd.ntmps9
  go_wp2_with fail
  refine (Hhal.out w (HhT.out.at (Below.refl _ _))).mono ?_
  rintro e w1 ⟨rfl, hb_⟩
  have B2 := Aside0.mk (hb_)
  clear hb_
  go_wp2_with fail
  refine (Hh37a.out w1).mono ?_
  rintro e w3 ⟨rfl, hb_⟩
  have B4 := Aside0.mk (below_step B2.out hb_)
  clear hb_ B2
  go_wp2_with fail
  refine (Hh37b.out w3).mono ?_
  rintro e w5 ⟨rfl, hb_⟩
  have B6 := Aside0.mk (below_step B4.out hb_)
  clear hb_ B4
  go_wp2_with fail
  go_loopg [16, 17] 20 (fun m v16 v17 w1 => ∃ (d k : Nat), v16 = .int .i64 (d : Int) ∧ v17 = .int .i64 (k : Int) ∧ Aside0 (d + dgn m k = dgn 20 n1) ∧ Aside0 (k < 2 ^ m) ∧ Aside0 (d + m = 20 ∧ k ≤ 1000) ∧ Aside0 (w1 = w5))
  case atStart => exact ⟨0, n1, rfl, (by first | rfl | rw [u1]), ⟨by omega⟩, ⟨by have := HN1.out; have := Hhni.out; omega⟩, ⟨by have := HN1.out; have := Hhni.out; omega⟩, ⟨rfl⟩⟩
  case round =>
    obtain ⟨d, k, rfl, rfl, HD, HP, HK, HW⟩ := hrel
    by_cases hk : 0 < k
    · obtain ⟨go, rfl⟩ : ∃ j, gk = j + 1 := ⟨gk - 1, by have := pow_gt hk HP.out; omega⟩
      have k1 : (0 < (k : Int)) = True := eq_true (by omega)
      have k2 : (0 < k) = True := eq_true hk
      have u2 : Int.tdiv (k : Int) 2 = ((k / 2 : Nat) : Int) := by rw [Int.tdiv_eq_ediv_of_nonneg (by omega)]; rfl
      have u3 : wrap64 ((k / 2 : Nat) : Int) = ((k / 2 : Nat) : Int) := by have := HK.out; unfold wrap64; omega
      have u4 : wrap64 ((d : Int) + 1) = ((d + 1 : Nat) : Int) := by have := HK.out; unfold wrap64; omega
      obtain ⟨k3, hk3⟩ : ∃ x : Nat, x = k / 2 := ⟨_, rfl⟩
      rw [← hk3] at u2 u3
      obtain ⟨d3, hd3⟩ : ∃ x : Nat, x = d + 1 := ⟨_, rfl⟩
      rw [← hd3] at u4
      have HK3 := Aside0.mk hk3
      have HD3 := Aside0.mk hd3
      have HKP := Aside0.mk hk
      clear hk hk3 hd3
      go_wp2_with fail
      go_roundg go
      case measure => have := HK.out; omega
      case rel => exact ⟨d3, k3, (by first | rfl | rw [u4]), (by first | rfl | rw [u3] | rw [u2] | rw [u2, u3]), ⟨by have := HD.out; rw [dgn_step _ _ HKP.out] at this; rw [HK3.out, HD3.out]; omega⟩, ⟨by have := HP.out; rw [HK3.out]; rw [Nat.pow_succ] at this; omega⟩, ⟨by have := HK.out; have := HK3.out; have := HD3.out; omega⟩, HW⟩
    · have HE : Aside0 (d = dgn 20 n1) := ⟨by have := HD.out; rw [show k = 0 by omega, dgn_end] at this; omega⟩
      have k1 : (0 < (k : Int)) = False := eq_false (by omega)
      have k2 : (0 < k) = False := eq_false hk
      have e1 : ((d : Int) < (s1 : Int)) = False := eq_false (by have := HE.out; have := Hhs1.out; omega)
      have e2 : (d < s1) = False := eq_false (by have := HE.out; have := Hhs1.out; omega)
      have e3 : ((s1 : Int) < (s2 : Int)) = False := eq_false (by have := Hhs2.out; omega)
      have e4 : (s1 < s2) = False := eq_false (by have := Hhs2.out; omega)
      clear hk
      obtain rfl := HW.out
      go_wp2_with fail
      refine (fit_calls (some ad) c ll _ (Kd.C_below Hhr.out B6.out) Hhlc.out).mono ?_
      rintro e w107 ⟨rfl, hw_⟩
      obtain rfl : wr = w107 := hw_.symm
      rw [Hhf.out]
      go_wp2_with fail
      refine (Hh1.out wr (HhT.out.at B6.out) B6.out).mono ?_
      rintro e w108 ⟨rfl, hb_⟩
      have B109 := Aside0.mk (below_step B6.out hb_)
      clear hb_ B6
      go_wp2_with (first | ((with_reducible refine gate_dst (N := 18) rfl ?_); refine box_event ?hg (N := 18) ?hd (cs := #[.int .u8 0, .int .u8 0, .int .u8 0, .int .u8 0, .int .u8 0, .int .u8 0, .int .u8 0, .int .u8 0, .int .u8 0, .int .u8 0, .int .u8 0, .int .u8 0, .int .u8 0, .int .u8 0, .int .u8 0, .int .u8 0, .int .u8 0, .int .u8 0, .int .u8 0, .int .u8 0]) (t := 23) ?hr ?_; (case hd => rfl); (case hg => rfl); (case hr => first | (go_simp; done) | (go_simp; rfl)); intro g110 hgg110 w111 hhg110 hbg110; have H114 := Aside0.mk hhg110; have G112 : w.heap.size ≤ g110 := Nat.le_trans B109.out.size (Nat.le_of_eq hgg110.symm); have B113 := Aside0.mk (below_step B109.out hbg110); clear hgg110 hhg110 hbg110 B109) | ((with_reducible refine gate_store (t := 23) (p := _) rfl ?_); refine storeN_event (T := 23) rfl rfl rfl rfl rfl (storeVar_blk H114.out 23 0 [.int .u8 (r 0), .int .u8 (r 1), .int .u8 (r 2), .int .u8 (r 3), .int .u8 (r 4), .int .u8 (r 5), .int .u8 (r 6), .int .u8 (r 7), .int .u8 (r 8), .int .u8 (r 9), .int .u8 (r 10), .int .u8 (r 11), .int .u8 (r 12), .int .u8 (r 13), .int .u8 (r 14), .int .u8 (r 15), .int .u8 (r 16), .int .u8 (r 17), .int .u8 (r 18), .int .u8 (r 19)] (by kernel_rfl) rfl (by simp)) ?_; have H116 := Aside0.mk (show (World.setCells w111 g110 0 [.int .u8 (r 0), .int .u8 (r 1), .int .u8 (r 2), .int .u8 (r 3), .int .u8 (r 4), .int .u8 (r 5), .int .u8 (r 6), .int .u8 (r 7), .int .u8 (r 8), .int .u8 (r 9), .int .u8 (r 10), .int .u8 (r 11), .int .u8 (r 12), .int .u8 (r 13), .int .u8 (r 14), .int .u8 (r 15), .int .u8 (r 16), .int .u8 (r 17), .int .u8 (r 18), .int .u8 (r 19)]).heap[g110]? = some (.cells #[.int .u8 (r 0), .int .u8 (r 1), .int .u8 (r 2), .int .u8 (r 3), .int .u8 (r 4), .int .u8 (r 5), .int .u8 (r 6), .int .u8 (r 7), .int .u8 (r 8), .int .u8 (r 9), .int .u8 (r 10), .int .u8 (r 11), .int .u8 (r 12), .int .u8 (r 13), .int .u8 (r 14), .int .u8 (r 15), .int .u8 (r 16), .int .u8 (r 17), .int .u8 (r 18), .int .u8 (r 19)] 23 (0, 0)) from blk_setCells [] [.int .u8 (r 0), .int .u8 (r 1), .int .u8 (r 2), .int .u8 (r 3), .int .u8 (r 4), .int .u8 (r 5), .int .u8 (r 6), .int .u8 (r 7), .int .u8 (r 8), .int .u8 (r 9), .int .u8 (r 10), .int .u8 (r 11), .int .u8 (r 12), .int .u8 (r 13), .int .u8 (r 14), .int .u8 (r 15), .int .u8 (r 16), .int .u8 (r 17), .int .u8 (r 18), .int .u8 (r 19)] [.int .u8 0, .int .u8 0, .int .u8 0, .int .u8 0, .int .u8 0, .int .u8 0, .int .u8 0, .int .u8 0, .int .u8 0, .int .u8 0, .int .u8 0, .int .u8 0, .int .u8 0, .int .u8 0, .int .u8 0, .int .u8 0, .int .u8 0, .int .u8 0, .int .u8 0, .int .u8 0] [] w111 rfl H114.out); have B117 := Aside0.mk (below_setCells G112 [.int .u8 (r 0), .int .u8 (r 1), .int .u8 (r 2), .int .u8 (r 3), .int .u8 (r 4), .int .u8 (r 5), .int .u8 (r 6), .int .u8 (r 7), .int .u8 (r 8), .int .u8 (r 9), .int .u8 (r 10), .int .u8 (r 11), .int .u8 (r 12), .int .u8 (r 13), .int .u8 (r 14), .int .u8 (r 15), .int .u8 (r 16), .int .u8 (r 17), .int .u8 (r 18), .int .u8 (r 19)] 0 w111 B113.out); clear H114 B113; generalize World.setCells w111 g110 0 [.int .u8 (r 0), .int .u8 (r 1), .int .u8 (r 2), .int .u8 (r 3), .int .u8 (r 4), .int .u8 (r 5), .int .u8 (r 6), .int .u8 (r 7), .int .u8 (r 8), .int .u8 (r 9), .int .u8 (r 10), .int .u8 (r 11), .int .u8 (r 12), .int .u8 (r 13), .int .u8 (r 14), .int .u8 (r 15), .int .u8 (r 16), .int .u8 (r 17), .int .u8 (r 18), .int .u8 (r 19)] = w115 at H116 B117 ⊢; generalize Value.tuple #[.agg #[.int .u8 (r 0), .int .u8 (r 1), .int .u8 (r 2), .int .u8 (r 3), .int .u8 (r 4), .int .u8 (r 5), .int .u8 (r 6), .int .u8 (r 7), .int .u8 (r 8), .int .u8 (r 9), .int .u8 (r 10), .int .u8 (r 11), .int .u8 (r 12), .int .u8 (r 13), .int .u8 (r 14), .int .u8 (r 15), .int .u8 (r 16), .int .u8 (r 17), .int .u8 (r 18), .int .u8 (r 19)], .int .i64 0] = V118; generalize Value.agg #[.int .u8 (r 0), .int .u8 (r 1), .int .u8 (r 2), .int .u8 (r 3), .int .u8 (r 4), .int .u8 (r 5), .int .u8 (r 6), .int .u8 (r 7), .int .u8 (r 8), .int .u8 (r 9), .int .u8 (r 10), .int .u8 (r 11), .int .u8 (r 12), .int .u8 (r 13), .int .u8 (r 14), .int .u8 (r 15), .int .u8 (r 16), .int .u8 (r 17), .int .u8 (r 18), .int .u8 (r 19)] = V119))
      refine (Hh2.out w115 (HhT.out.at B117.out) B117.out).mono ?_
      rintro e w120 ⟨vp_, rfl, hR_, hb_⟩
      have B121 := Aside0.mk (below_step B117.out hb_)
      have H122 := Aside0.mk (blk_below H116.out hb_)
      clear hb_ B117 H116
      obtain ⟨rp, cp, rfl, hle_, hC_⟩ := Kd.R_reads hR_
      obtain ⟨m, hm_⟩ : ∃ m : Nat, m = ps.length := ⟨_, rfl⟩
      rw [← hm_]
      have Hm := Aside0.mk hm_
      rw [← hm_] at hC_ hle_
      clear hm_
      have BWP := Aside0.mk B121.out
      have RP := Aside0.mk hC_
      have LP := Aside0.mk hle_
      clear hC_ hle_ hR_
      have H18P := Aside0.mk H122.out
      go_wp2_with fail
      go_ret
      exact ⟨rfl, B121.out⟩
set_option maxHeartbeats 3200000 in
set_option maxRecDepth 100000 in
theorem ways_stbig (n i : Nat) (ad : Addr) (c : Nat) (ll : List (List Int)) (p : Nat) (q : Int) (w : World) (hT : TabQ w) (hr : Kd.C (Kd.slice 5 (Kd.int .u8)) w (some ad) ll.length ll) (hlc : ll.length ≤ c) (hal : ∀ W : World, TabQ W → Calls Tryd.prog 33 #[] W fun e w' => e = .returned (.bool true) ∧ Below W.heap.size W w') (hni : 1 ≤ n ∧ n ≤ 600 ∧ i < n) (s1 s2 : Nat) (hs1 : s1 ≤ dgn 20 (n - 1)) (hs2 : s2 ≤ s1) (h37a : ∀ W : World, Calls Tryd.prog 37 #[.int .i64 (n : Int), .int .i64 (i : Int)] W fun e w' => e = .returned (.tuple #[.int .i64 (s1 : Int), .int .i64 0]) ∧ Below W.heap.size W w') (h37b : ∀ W : World, Calls Tryd.prog 37 #[.int .i64 (n : Int), .int .i64 ((n - 1 : Nat) : Int)] W fun e w' => e = .returned (.tuple #[.int .i64 (s2 : Int), .int .i64 0]) ∧ Below W.heap.size W w') (hf : fitb ll = true) (hwp : p < ll.length) (r : Dg) (ps : List Dg) (hw : 0 ≤ q ∧ (ps.length : Int) ≤ q)
    (h1 : ∀ W : World, TabQ W → Below w.heap.size w W → Calls Tryd.prog 35 #[.slice (some ad) ll.length c] W fun e w' => e = .returned (.tuple #[.agg #[.int .u8 (r 0), .int .u8 (r 1), .int .u8 (r 2), .int .u8 (r 3), .int .u8 (r 4), .int .u8 (r 5), .int .u8 (r 6), .int .u8 (r 7), .int .u8 (r 8), .int .u8 (r 9), .int .u8 (r 10), .int .u8 (r 11), .int .u8 (r 12), .int .u8 (r 13), .int .u8 (r 14), .int .u8 (r 15), .int .u8 (r 16), .int .u8 (r 17), .int .u8 (r 18), .int .u8 (r 19)], .int .i64 0]) ∧ Below W.heap.size W w') (h2 : ∀ W : World, TabQ W → Below w.heap.size w W → Calls Tryd.prog 36 #[.slice (some ad) ll.length c, .int .i64 (p : Int)] W fun e w' => ∃ v0_ : Value, e = .returned (.tuple #[v0_, .int .i64 0]) ∧ Kd.R kdg 23 w' W.heap.size (fun _ => True) v0_ ps ∧ Below W.heap.size W w') :
    Calls Tryd.prog 9 #[.int .i64 (n : Int), .int .i64 (i : Int), .slice (some ad) ll.length c, .int .i64 (p : Int), .int .i64 q] w fun e w' => e = .returned (.bool true) ∧ Below w.heap.size w w' := by
  have Hhw := Aside0.mk hw
  have HhT := Aside0.mk hT
  have Hhr := Aside0.mk hr
  have Hhlc := Aside0.mk hlc
  have Hhal := Aside0.mk hal
  have Hhni := Aside0.mk hni
  have Hhs1 := Aside0.mk hs1
  have Hhs2 := Aside0.mk hs2
  have Hh37a := Aside0.mk h37a
  have Hh37b := Aside0.mk h37b
  have Hhf := Aside0.mk hf
  have Hhwp := Aside0.mk hwp
  have Hh1 := Aside0.mk h1
  have Hh2 := Aside0.mk h2
  have n1a : ((((n : Nat) : Int) : Int) < (1 : Int)) = False := eq_false (by omega)
  have n1b : ((1 : Int) ≤ (((n : Nat) : Int) : Int)) = True := eq_true (by omega)
  have n6a : ((600 : Int) < (((n : Nat) : Int) : Int)) = False := eq_false (by omega)
  have n6b : ((((n : Nat) : Int) : Int) ≤ (600 : Int)) = True := eq_true (by omega)
  have i0a : ((((i : Nat) : Int) : Int) < (0 : Int)) = False := eq_false (by omega)
  have i0b : ((0 : Int) ≤ (((i : Nat) : Int) : Int)) = True := eq_true (by omega)
  have ina : ((((i : Nat) : Int) : Int) < (((n : Nat) : Int) : Int)) = True := eq_true (by omega)
  have inb : ((((n : Nat) : Int) : Int) ≤ (((i : Nat) : Int) : Int)) = False := eq_false (by omega)
  have n1c : (n < 1) = False := eq_false (by omega)
  have n1d : (1 ≤ n) = True := eq_true (by omega)
  have n6c : (600 < n) = False := eq_false (by omega)
  have n6d : (n ≤ 600) = True := eq_true (by omega)
  have inc : (i < n) = True := eq_true (by omega)
  have ind : (n ≤ i) = False := eq_false (by omega)
  have p0a : ((((p : Nat) : Int) : Int) < (0 : Int)) = False := eq_false (by omega)
  have p0b : ((0 : Int) ≤ (((p : Nat) : Int) : Int)) = True := eq_true (by omega)
  have pna : ((((p : Nat) : Int) : Int) < (((ll.length : Nat) : Int) : Int)) = True := eq_true (by omega)
  have pnb : ((((ll.length : Nat) : Int) : Int) ≤ (((p : Nat) : Int) : Int)) = False := eq_false (by omega)
  have pnc : (p < ll.length) = True := eq_true (by omega)
  have pnd : (ll.length ≤ p) = False := eq_false (by omega)
  have q0a : ((q : Int) < (0 : Int)) = False := eq_false (by omega)
  have q0b : ((0 : Int) ≤ (q : Int)) = True := eq_true (by omega)
  have u1 : wrap64 ((n : Int) - 1) = ((n - 1 : Nat) : Int) := by unfold wrap64; omega
  obtain ⟨n1, hn1⟩ : ∃ x : Nat, x = n - 1 := ⟨_, rfl⟩
  rw [← hn1] at u1
  have HN1 := Aside0.mk hn1
  rw [← hn1] at h37b hs1
  have Hh37b := Aside0.mk h37b
  have Hhs1 := Aside0.mk hs1
  clear hn1 hT hr hlc hal hni hs1 hs2 h37a h37b hf hw hwp h1 h2
  go_enter Tryd.func9, Tryd.ntmps9
  go_wp2_with fail
  refine (Hhal.out w (HhT.out.at (Below.refl _ _))).mono ?_
  rintro e w1 ⟨rfl, hb_⟩
  have B2 := Aside0.mk (hb_)
  clear hb_
  go_wp2_with fail
  refine (Hh37a.out w1).mono ?_
  rintro e w3 ⟨rfl, hb_⟩
  have B4 := Aside0.mk (below_step B2.out hb_)
  clear hb_ B2
  go_wp2_with fail
  refine (Hh37b.out w3).mono ?_
  rintro e w5 ⟨rfl, hb_⟩
  have B6 := Aside0.mk (below_step B4.out hb_)
  clear hb_ B4
  go_wp2_with fail
  go_loopg [16, 17] 20 (fun m v16 v17 w1 => ∃ (d k : Nat), v16 = .int .i64 (d : Int) ∧ v17 = .int .i64 (k : Int) ∧ Aside0 (d + dgn m k = dgn 20 n1) ∧ Aside0 (k < 2 ^ m) ∧ Aside0 (d + m = 20 ∧ k ≤ 1000) ∧ Aside0 (w1 = w5))
  case atStart => exact ⟨0, n1, rfl, (by first | rfl | rw [u1]), ⟨by omega⟩, ⟨by have := HN1.out; have := Hhni.out; omega⟩, ⟨by have := HN1.out; have := Hhni.out; omega⟩, ⟨rfl⟩⟩
  case round =>
    obtain ⟨d, k, rfl, rfl, HD, HP, HK, HW⟩ := hrel
    by_cases hk : 0 < k
    · obtain ⟨go, rfl⟩ : ∃ j, gk = j + 1 := ⟨gk - 1, by have := pow_gt hk HP.out; omega⟩
      have k1 : (0 < (k : Int)) = True := eq_true (by omega)
      have k2 : (0 < k) = True := eq_true hk
      have u2 : Int.tdiv (k : Int) 2 = ((k / 2 : Nat) : Int) := by rw [Int.tdiv_eq_ediv_of_nonneg (by omega)]; rfl
      have u3 : wrap64 ((k / 2 : Nat) : Int) = ((k / 2 : Nat) : Int) := by have := HK.out; unfold wrap64; omega
      have u4 : wrap64 ((d : Int) + 1) = ((d + 1 : Nat) : Int) := by have := HK.out; unfold wrap64; omega
      obtain ⟨k3, hk3⟩ : ∃ x : Nat, x = k / 2 := ⟨_, rfl⟩
      rw [← hk3] at u2 u3
      obtain ⟨d3, hd3⟩ : ∃ x : Nat, x = d + 1 := ⟨_, rfl⟩
      rw [← hd3] at u4
      have HK3 := Aside0.mk hk3
      have HD3 := Aside0.mk hd3
      have HKP := Aside0.mk hk
      clear hk hk3 hd3
      go_wp2_with fail
      go_roundg go
      case measure => have := HK.out; omega
      case rel => exact ⟨d3, k3, (by first | rfl | rw [u4]), (by first | rfl | rw [u3] | rw [u2] | rw [u2, u3]), ⟨by have := HD.out; rw [dgn_step _ _ HKP.out] at this; rw [HK3.out, HD3.out]; omega⟩, ⟨by have := HP.out; rw [HK3.out]; rw [Nat.pow_succ] at this; omega⟩, ⟨by have := HK.out; have := HK3.out; have := HD3.out; omega⟩, HW⟩
    · have HE : Aside0 (d = dgn 20 n1) := ⟨by have := HD.out; rw [show k = 0 by omega, dgn_end] at this; omega⟩
      have k1 : (0 < (k : Int)) = False := eq_false (by omega)
      have k2 : (0 < k) = False := eq_false hk
      have e1 : ((d : Int) < (s1 : Int)) = False := eq_false (by have := HE.out; have := Hhs1.out; omega)
      have e2 : (d < s1) = False := eq_false (by have := HE.out; have := Hhs1.out; omega)
      have e3 : ((s1 : Int) < (s2 : Int)) = False := eq_false (by have := Hhs2.out; omega)
      have e4 : (s1 < s2) = False := eq_false (by have := Hhs2.out; omega)
      clear hk
      obtain rfl := HW.out
      go_wp2_with fail
      refine (fit_calls (some ad) c ll _ (Kd.C_below Hhr.out B6.out) Hhlc.out).mono ?_
      rintro e w107 ⟨rfl, hw_⟩
      obtain rfl : wr = w107 := hw_.symm
      rw [Hhf.out]
      go_wp2_with fail
      refine (Hh1.out wr (HhT.out.at B6.out) B6.out).mono ?_
      rintro e w108 ⟨rfl, hb_⟩
      have B109 := Aside0.mk (below_step B6.out hb_)
      clear hb_ B6
      go_wp2_with (first | ((with_reducible refine gate_dst (N := 18) rfl ?_); refine box_event ?hg (N := 18) ?hd (cs := #[.int .u8 0, .int .u8 0, .int .u8 0, .int .u8 0, .int .u8 0, .int .u8 0, .int .u8 0, .int .u8 0, .int .u8 0, .int .u8 0, .int .u8 0, .int .u8 0, .int .u8 0, .int .u8 0, .int .u8 0, .int .u8 0, .int .u8 0, .int .u8 0, .int .u8 0, .int .u8 0]) (t := 23) ?hr ?_; (case hd => rfl); (case hg => rfl); (case hr => first | (go_simp; done) | (go_simp; rfl)); intro g110 hgg110 w111 hhg110 hbg110; have H114 := Aside0.mk hhg110; have G112 : w.heap.size ≤ g110 := Nat.le_trans B109.out.size (Nat.le_of_eq hgg110.symm); have B113 := Aside0.mk (below_step B109.out hbg110); clear hgg110 hhg110 hbg110 B109) | ((with_reducible refine gate_store (t := 23) (p := _) rfl ?_); refine storeN_event (T := 23) rfl rfl rfl rfl rfl (storeVar_blk H114.out 23 0 [.int .u8 (r 0), .int .u8 (r 1), .int .u8 (r 2), .int .u8 (r 3), .int .u8 (r 4), .int .u8 (r 5), .int .u8 (r 6), .int .u8 (r 7), .int .u8 (r 8), .int .u8 (r 9), .int .u8 (r 10), .int .u8 (r 11), .int .u8 (r 12), .int .u8 (r 13), .int .u8 (r 14), .int .u8 (r 15), .int .u8 (r 16), .int .u8 (r 17), .int .u8 (r 18), .int .u8 (r 19)] (by kernel_rfl) rfl (by simp)) ?_; have H116 := Aside0.mk (show (World.setCells w111 g110 0 [.int .u8 (r 0), .int .u8 (r 1), .int .u8 (r 2), .int .u8 (r 3), .int .u8 (r 4), .int .u8 (r 5), .int .u8 (r 6), .int .u8 (r 7), .int .u8 (r 8), .int .u8 (r 9), .int .u8 (r 10), .int .u8 (r 11), .int .u8 (r 12), .int .u8 (r 13), .int .u8 (r 14), .int .u8 (r 15), .int .u8 (r 16), .int .u8 (r 17), .int .u8 (r 18), .int .u8 (r 19)]).heap[g110]? = some (.cells #[.int .u8 (r 0), .int .u8 (r 1), .int .u8 (r 2), .int .u8 (r 3), .int .u8 (r 4), .int .u8 (r 5), .int .u8 (r 6), .int .u8 (r 7), .int .u8 (r 8), .int .u8 (r 9), .int .u8 (r 10), .int .u8 (r 11), .int .u8 (r 12), .int .u8 (r 13), .int .u8 (r 14), .int .u8 (r 15), .int .u8 (r 16), .int .u8 (r 17), .int .u8 (r 18), .int .u8 (r 19)] 23 (0, 0)) from blk_setCells [] [.int .u8 (r 0), .int .u8 (r 1), .int .u8 (r 2), .int .u8 (r 3), .int .u8 (r 4), .int .u8 (r 5), .int .u8 (r 6), .int .u8 (r 7), .int .u8 (r 8), .int .u8 (r 9), .int .u8 (r 10), .int .u8 (r 11), .int .u8 (r 12), .int .u8 (r 13), .int .u8 (r 14), .int .u8 (r 15), .int .u8 (r 16), .int .u8 (r 17), .int .u8 (r 18), .int .u8 (r 19)] [.int .u8 0, .int .u8 0, .int .u8 0, .int .u8 0, .int .u8 0, .int .u8 0, .int .u8 0, .int .u8 0, .int .u8 0, .int .u8 0, .int .u8 0, .int .u8 0, .int .u8 0, .int .u8 0, .int .u8 0, .int .u8 0, .int .u8 0, .int .u8 0, .int .u8 0, .int .u8 0] [] w111 rfl H114.out); have B117 := Aside0.mk (below_setCells G112 [.int .u8 (r 0), .int .u8 (r 1), .int .u8 (r 2), .int .u8 (r 3), .int .u8 (r 4), .int .u8 (r 5), .int .u8 (r 6), .int .u8 (r 7), .int .u8 (r 8), .int .u8 (r 9), .int .u8 (r 10), .int .u8 (r 11), .int .u8 (r 12), .int .u8 (r 13), .int .u8 (r 14), .int .u8 (r 15), .int .u8 (r 16), .int .u8 (r 17), .int .u8 (r 18), .int .u8 (r 19)] 0 w111 B113.out); clear H114 B113; generalize World.setCells w111 g110 0 [.int .u8 (r 0), .int .u8 (r 1), .int .u8 (r 2), .int .u8 (r 3), .int .u8 (r 4), .int .u8 (r 5), .int .u8 (r 6), .int .u8 (r 7), .int .u8 (r 8), .int .u8 (r 9), .int .u8 (r 10), .int .u8 (r 11), .int .u8 (r 12), .int .u8 (r 13), .int .u8 (r 14), .int .u8 (r 15), .int .u8 (r 16), .int .u8 (r 17), .int .u8 (r 18), .int .u8 (r 19)] = w115 at H116 B117 ⊢; generalize Value.tuple #[.agg #[.int .u8 (r 0), .int .u8 (r 1), .int .u8 (r 2), .int .u8 (r 3), .int .u8 (r 4), .int .u8 (r 5), .int .u8 (r 6), .int .u8 (r 7), .int .u8 (r 8), .int .u8 (r 9), .int .u8 (r 10), .int .u8 (r 11), .int .u8 (r 12), .int .u8 (r 13), .int .u8 (r 14), .int .u8 (r 15), .int .u8 (r 16), .int .u8 (r 17), .int .u8 (r 18), .int .u8 (r 19)], .int .i64 0] = V118; generalize Value.agg #[.int .u8 (r 0), .int .u8 (r 1), .int .u8 (r 2), .int .u8 (r 3), .int .u8 (r 4), .int .u8 (r 5), .int .u8 (r 6), .int .u8 (r 7), .int .u8 (r 8), .int .u8 (r 9), .int .u8 (r 10), .int .u8 (r 11), .int .u8 (r 12), .int .u8 (r 13), .int .u8 (r 14), .int .u8 (r 15), .int .u8 (r 16), .int .u8 (r 17), .int .u8 (r 18), .int .u8 (r 19)] = V119))
      refine (Hh2.out w115 (HhT.out.at B117.out) B117.out).mono ?_
      rintro e w120 ⟨vp_, rfl, hR_, hb_⟩
      have B121 := Aside0.mk (below_step B117.out hb_)
      have H122 := Aside0.mk (blk_below H116.out hb_)
      clear hb_ B117 H116
      obtain ⟨rp, cp, rfl, hle_, hC_⟩ := Kd.R_reads hR_
      obtain ⟨m, hm_⟩ : ∃ m : Nat, m = ps.length := ⟨_, rfl⟩
      rw [← hm_]
      have Hm := Aside0.mk hm_
      rw [← hm_] at hC_ hle_
      clear hm_
      have BWP := Aside0.mk B121.out
      have RP := Aside0.mk hC_
      have LP := Aside0.mk hle_
      clear hC_ hle_ hR_
      have H18P := Aside0.mk H122.out
      have qm1 : (q < ((m : Nat) : Int)) = False := eq_false (by have := Hm.out; have := Hhw.out; omega)
      have qm2 : (((m : Nat) : Int) ≤ q) = True := eq_true (by have := Hm.out; have := Hhw.out; omega)
      go_wp2_with fail
      go_ret
      exact ⟨rfl, B121.out⟩
set_option maxHeartbeats 3200000 in
set_option maxRecDepth 100000 in
theorem ways_main (n i : Nat) (ad : Addr) (c : Nat) (ll : List (List Int)) (p : Nat) (q : Nat) (w : World) (hT : TabQ w) (hr : Kd.C (Kd.slice 5 (Kd.int .u8)) w (some ad) ll.length ll) (hlc : ll.length ≤ c) (hal : ∀ W : World, TabQ W → Calls Tryd.prog 33 #[] W fun e w' => e = .returned (.bool true) ∧ Below W.heap.size W w') (hni : 1 ≤ n ∧ n ≤ 600 ∧ i < n) (s1 s2 : Nat) (hs1 : s1 ≤ dgn 20 (n - 1)) (hs2 : s2 ≤ s1) (h37a : ∀ W : World, Calls Tryd.prog 37 #[.int .i64 (n : Int), .int .i64 (i : Int)] W fun e w' => e = .returned (.tuple #[.int .i64 (s1 : Int), .int .i64 0]) ∧ Below W.heap.size W w') (h37b : ∀ W : World, Calls Tryd.prog 37 #[.int .i64 (n : Int), .int .i64 ((n - 1 : Nat) : Int)] W fun e w' => e = .returned (.tuple #[.int .i64 (s2 : Int), .int .i64 0]) ∧ Below W.heap.size W w') (hf : fitb ll = true) (hwp : p < ll.length) (hi20 : ll.length ≤ 20) (r u z : Dg) (b : Bool) (ps : List Dg) (hw : q < ps.length) (hq : ps.length ≤ 1000) (x : List Int) (Ai : Option Addr) (ci : Nat) (hcell : ∀ W : World, Below w.heap.size w W → W.cell? (ad.add p) = some (.slice Ai x.length ci)) (hu : ∀ (k : Nat) (W : World), (Op.equalIn (k + 2) 23 (.agg #[.int .u8 (u 0), .int .u8 (u 1), .int .u8 (u 2), .int .u8 (u 3), .int .u8 (u 4), .int .u8 (u 5), .int .u8 (u 6), .int .u8 (u 7), .int .u8 (u 8), .int .u8 (u 9), .int .u8 (u 10), .int .u8 (u 11), .int .u8 (u 12), .int .u8 (u 13), .int .u8 (u 14), .int .u8 (u 15), .int .u8 (u 16), .int .u8 (u 17), .int .u8 (u 18), .int .u8 (u 19)]) (.agg #[.int .u8 (r 0), .int .u8 (r 1), .int .u8 (r 2), .int .u8 (r 3), .int .u8 (r 4), .int .u8 (r 5), .int .u8 (r 6), .int .u8 (r 7), .int .u8 (r 8), .int .u8 (r 9), .int .u8 (r 10), .int .u8 (r 11), .int .u8 (r 12), .int .u8 (r 13), .int .u8 (r 14), .int .u8 (r 15), .int .u8 (r 16), .int .u8 (r 17), .int .u8 (r 18), .int .u8 (r 19)])).run Tryd.prog W = .ok b W)
    (h1 : ∀ W : World, TabQ W → Below w.heap.size w W → Calls Tryd.prog 35 #[.slice (some ad) ll.length c] W fun e w' => e = .returned (.tuple #[.agg #[.int .u8 (r 0), .int .u8 (r 1), .int .u8 (r 2), .int .u8 (r 3), .int .u8 (r 4), .int .u8 (r 5), .int .u8 (r 6), .int .u8 (r 7), .int .u8 (r 8), .int .u8 (r 9), .int .u8 (r 10), .int .u8 (r 11), .int .u8 (r 12), .int .u8 (r 13), .int .u8 (r 14), .int .u8 (r 15), .int .u8 (r 16), .int .u8 (r 17), .int .u8 (r 18), .int .u8 (r 19)], .int .i64 0]) ∧ Below W.heap.size W w') (h2 : ∀ W : World, TabQ W → Below w.heap.size w W → Calls Tryd.prog 36 #[.slice (some ad) ll.length c, .int .i64 (p : Int)] W fun e w' => ∃ v0_ : Value, e = .returned (.tuple #[v0_, .int .i64 0]) ∧ Kd.R kdg 23 w' W.heap.size (fun _ => True) v0_ ps ∧ Below W.heap.size W w') (h3 : ∀ W : World, TabQ W → Below w.heap.size w W → Calls Tryd.prog 39 #[.slice Ai x.length ci] W fun e w' => e = .returned (.tuple #[.agg #[.int .u8 (z 0), .int .u8 (z 1), .int .u8 (z 2), .int .u8 (z 3), .int .u8 (z 4), .int .u8 (z 5), .int .u8 (z 6), .int .u8 (z 7), .int .u8 (z 8), .int .u8 (z 9), .int .u8 (z 10), .int .u8 (z 11), .int .u8 (z 12), .int .u8 (z 13), .int .u8 (z 14), .int .u8 (z 15), .int .u8 (z 16), .int .u8 (z 17), .int .u8 (z 18), .int .u8 (z 19)], .int .i64 0]) ∧ Below W.heap.size W w') (h4 : ∀ (W : World) (rp : Option Addr) (cp k : Nat), k = ps.length → TabQ W → Kd.C kdg W rp k (ps.set q (put0 (ps.getD q zdg) (Go.bits .xor .u8 (ps.getD q zdg 0) 1))) → Calls Tryd.prog 40 #[.int .i64 ((ll.length : Nat) : Int), .int .i64 (p : Int), .agg #[.int .u8 (z 0), .int .u8 (z 1), .int .u8 (z 2), .int .u8 (z 3), .int .u8 (z 4), .int .u8 (z 5), .int .u8 (z 6), .int .u8 (z 7), .int .u8 (z 8), .int .u8 (z 9), .int .u8 (z 10), .int .u8 (z 11), .int .u8 (z 12), .int .u8 (z 13), .int .u8 (z 14), .int .u8 (z 15), .int .u8 (z 16), .int .u8 (z 17), .int .u8 (z 18), .int .u8 (z 19)], .slice rp k cp] W fun e w' => e = .returned (.tuple #[.agg #[.int .u8 (u 0), .int .u8 (u 1), .int .u8 (u 2), .int .u8 (u 3), .int .u8 (u 4), .int .u8 (u 5), .int .u8 (u 6), .int .u8 (u 7), .int .u8 (u 8), .int .u8 (u 9), .int .u8 (u 10), .int .u8 (u 11), .int .u8 (u 12), .int .u8 (u 13), .int .u8 (u 14), .int .u8 (u 15), .int .u8 (u 16), .int .u8 (u 17), .int .u8 (u 18), .int .u8 (u 19)], .int .i64 0]) ∧ Below W.heap.size W w') (h5 : ∀ (W : World) (rp : Option Addr) (cp k : Nat), k = ps.length → TabQ W → Below w.heap.size w W → Kd.C kdg W rp k (ps.set q (put0 (ps.getD q zdg) (Go.bits .xor .u8 (ps.getD q zdg 0) 1))) → Calls Tryd.prog 38 #[.agg #[.int .u8 (r 0), .int .u8 (r 1), .int .u8 (r 2), .int .u8 (r 3), .int .u8 (r 4), .int .u8 (r 5), .int .u8 (r 6), .int .u8 (r 7), .int .u8 (r 8), .int .u8 (r 9), .int .u8 (r 10), .int .u8 (r 11), .int .u8 (r 12), .int .u8 (r 13), .int .u8 (r 14), .int .u8 (r 15), .int .u8 (r 16), .int .u8 (r 17), .int .u8 (r 18), .int .u8 (r 19)], .int .i64 ((ll.length : Nat) : Int), .int .i64 (p : Int), .slice Ai x.length ci, .slice rp k cp] W fun e w' => e = .returned (.tuple #[.bool b, .int .i64 0]) ∧ Below W.heap.size W w') :
    Calls Tryd.prog 9 #[.int .i64 (n : Int), .int .i64 (i : Int), .slice (some ad) ll.length c, .int .i64 (p : Int), .int .i64 (q : Int)] w fun e w' => e = .returned (.bool true) ∧ Below w.heap.size w w' := by
  have hu' := hu
  have Hhw := Aside0.mk hw
  have HhT := Aside0.mk hT
  have Hhr := Aside0.mk hr
  have Hhlc := Aside0.mk hlc
  have Hhal := Aside0.mk hal
  have Hhni := Aside0.mk hni
  have Hhs1 := Aside0.mk hs1
  have Hhs2 := Aside0.mk hs2
  have Hh37a := Aside0.mk h37a
  have Hh37b := Aside0.mk h37b
  have Hhf := Aside0.mk hf
  have Hhwp := Aside0.mk hwp
  have Hh1 := Aside0.mk h1
  have Hh2 := Aside0.mk h2
  have Hhq := Aside0.mk hq
  have Hhcell := Aside0.mk hcell
  have Hh3 := Aside0.mk h3
  have Hh4 := Aside0.mk h4
  have Hh5 := Aside0.mk h5
  have Hhi20 := Aside0.mk hi20
  have Hhu := Aside0.mk hu
  have n1a : ((((n : Nat) : Int) : Int) < (1 : Int)) = False := eq_false (by omega)
  have n1b : ((1 : Int) ≤ (((n : Nat) : Int) : Int)) = True := eq_true (by omega)
  have n6a : ((600 : Int) < (((n : Nat) : Int) : Int)) = False := eq_false (by omega)
  have n6b : ((((n : Nat) : Int) : Int) ≤ (600 : Int)) = True := eq_true (by omega)
  have i0a : ((((i : Nat) : Int) : Int) < (0 : Int)) = False := eq_false (by omega)
  have i0b : ((0 : Int) ≤ (((i : Nat) : Int) : Int)) = True := eq_true (by omega)
  have ina : ((((i : Nat) : Int) : Int) < (((n : Nat) : Int) : Int)) = True := eq_true (by omega)
  have inb : ((((n : Nat) : Int) : Int) ≤ (((i : Nat) : Int) : Int)) = False := eq_false (by omega)
  have n1c : (n < 1) = False := eq_false (by omega)
  have n1d : (1 ≤ n) = True := eq_true (by omega)
  have n6c : (600 < n) = False := eq_false (by omega)
  have n6d : (n ≤ 600) = True := eq_true (by omega)
  have inc : (i < n) = True := eq_true (by omega)
  have ind : (n ≤ i) = False := eq_false (by omega)
  have p0a : ((((p : Nat) : Int) : Int) < (0 : Int)) = False := eq_false (by omega)
  have p0b : ((0 : Int) ≤ (((p : Nat) : Int) : Int)) = True := eq_true (by omega)
  have pna : ((((p : Nat) : Int) : Int) < (((ll.length : Nat) : Int) : Int)) = True := eq_true (by omega)
  have pnb : ((((ll.length : Nat) : Int) : Int) ≤ (((p : Nat) : Int) : Int)) = False := eq_false (by omega)
  have pnc : (p < ll.length) = True := eq_true (by omega)
  have pnd : (ll.length ≤ p) = False := eq_false (by omega)
  have q0a : ((((q : Nat) : Int) : Int) < (0 : Int)) = False := eq_false (by omega)
  have q0b : ((0 : Int) ≤ (((q : Nat) : Int) : Int)) = True := eq_true (by omega)
  have u1 : wrap64 ((n : Int) - 1) = ((n - 1 : Nat) : Int) := by unfold wrap64; omega
  obtain ⟨n1, hn1⟩ : ∃ x : Nat, x = n - 1 := ⟨_, rfl⟩
  rw [← hn1] at u1
  have HN1 := Aside0.mk hn1
  rw [← hn1] at h37b hs1
  have Hh37b := Aside0.mk h37b
  have Hhs1 := Aside0.mk hs1
  clear hn1 hT hr hlc hal hni hs1 hs2 h37a h37b hf hw hwp h1 h2 hq hcell h3 h4 h5 hi20 hu
  go_enter Tryd.func9, Tryd.ntmps9
  go_wp2_with fail
  refine (Hhal.out w (HhT.out.at (Below.refl _ _))).mono ?_
  rintro e w1 ⟨rfl, hb_⟩
  have B2 := Aside0.mk (hb_)
  clear hb_
  go_wp2_with fail
  refine (Hh37a.out w1).mono ?_
  rintro e w3 ⟨rfl, hb_⟩
  have B4 := Aside0.mk (below_step B2.out hb_)
  clear hb_ B2
  go_wp2_with fail
  refine (Hh37b.out w3).mono ?_
  rintro e w5 ⟨rfl, hb_⟩
  have B6 := Aside0.mk (below_step B4.out hb_)
  clear hb_ B4
  go_wp2_with fail
  go_loopg [16, 17] 20 (fun m v16 v17 w1 => ∃ (d k : Nat), v16 = .int .i64 (d : Int) ∧ v17 = .int .i64 (k : Int) ∧ Aside0 (d + dgn m k = dgn 20 n1) ∧ Aside0 (k < 2 ^ m) ∧ Aside0 (d + m = 20 ∧ k ≤ 1000) ∧ Aside0 (w1 = w5))
  case atStart => exact ⟨0, n1, rfl, (by first | rfl | rw [u1]), ⟨by omega⟩, ⟨by have := HN1.out; have := Hhni.out; omega⟩, ⟨by have := HN1.out; have := Hhni.out; omega⟩, ⟨rfl⟩⟩
  case round =>
    obtain ⟨d, k, rfl, rfl, HD, HP, HK, HW⟩ := hrel
    by_cases hk : 0 < k
    · obtain ⟨go, rfl⟩ : ∃ j, gk = j + 1 := ⟨gk - 1, by have := pow_gt hk HP.out; omega⟩
      have k1 : (0 < (k : Int)) = True := eq_true (by omega)
      have k2 : (0 < k) = True := eq_true hk
      have u2 : Int.tdiv (k : Int) 2 = ((k / 2 : Nat) : Int) := by rw [Int.tdiv_eq_ediv_of_nonneg (by omega)]; rfl
      have u3 : wrap64 ((k / 2 : Nat) : Int) = ((k / 2 : Nat) : Int) := by have := HK.out; unfold wrap64; omega
      have u4 : wrap64 ((d : Int) + 1) = ((d + 1 : Nat) : Int) := by have := HK.out; unfold wrap64; omega
      obtain ⟨k3, hk3⟩ : ∃ x : Nat, x = k / 2 := ⟨_, rfl⟩
      rw [← hk3] at u2 u3
      obtain ⟨d3, hd3⟩ : ∃ x : Nat, x = d + 1 := ⟨_, rfl⟩
      rw [← hd3] at u4
      have HK3 := Aside0.mk hk3
      have HD3 := Aside0.mk hd3
      have HKP := Aside0.mk hk
      clear hk hk3 hd3
      go_wp2_with fail
      go_roundg go
      case measure => have := HK.out; omega
      case rel => exact ⟨d3, k3, (by first | rfl | rw [u4]), (by first | rfl | rw [u3] | rw [u2] | rw [u2, u3]), ⟨by have := HD.out; rw [dgn_step _ _ HKP.out] at this; rw [HK3.out, HD3.out]; omega⟩, ⟨by have := HP.out; rw [HK3.out]; rw [Nat.pow_succ] at this; omega⟩, ⟨by have := HK.out; have := HK3.out; have := HD3.out; omega⟩, HW⟩
    · have HE : Aside0 (d = dgn 20 n1) := ⟨by have := HD.out; rw [show k = 0 by omega, dgn_end] at this; omega⟩
      have k1 : (0 < (k : Int)) = False := eq_false (by omega)
      have k2 : (0 < k) = False := eq_false hk
      have e1 : ((d : Int) < (s1 : Int)) = False := eq_false (by have := HE.out; have := Hhs1.out; omega)
      have e2 : (d < s1) = False := eq_false (by have := HE.out; have := Hhs1.out; omega)
      have e3 : ((s1 : Int) < (s2 : Int)) = False := eq_false (by have := Hhs2.out; omega)
      have e4 : (s1 < s2) = False := eq_false (by have := Hhs2.out; omega)
      clear hk
      obtain rfl := HW.out
      go_wp2_with fail
      refine (fit_calls (some ad) c ll _ (Kd.C_below Hhr.out B6.out) Hhlc.out).mono ?_
      rintro e w107 ⟨rfl, hw_⟩
      obtain rfl : wr = w107 := hw_.symm
      rw [Hhf.out]
      go_wp2_with fail
      refine (Hh1.out wr (HhT.out.at B6.out) B6.out).mono ?_
      rintro e w108 ⟨rfl, hb_⟩
      have B109 := Aside0.mk (below_step B6.out hb_)
      clear hb_ B6
      go_wp2_with (first | ((with_reducible refine gate_dst (N := 18) rfl ?_); refine box_event ?hg (N := 18) ?hd (cs := #[.int .u8 0, .int .u8 0, .int .u8 0, .int .u8 0, .int .u8 0, .int .u8 0, .int .u8 0, .int .u8 0, .int .u8 0, .int .u8 0, .int .u8 0, .int .u8 0, .int .u8 0, .int .u8 0, .int .u8 0, .int .u8 0, .int .u8 0, .int .u8 0, .int .u8 0, .int .u8 0]) (t := 23) ?hr ?_; (case hd => rfl); (case hg => rfl); (case hr => first | (go_simp; done) | (go_simp; rfl)); intro g110 hgg110 w111 hhg110 hbg110; have H114 := Aside0.mk hhg110; have G112 : w.heap.size ≤ g110 := Nat.le_trans B109.out.size (Nat.le_of_eq hgg110.symm); have B113 := Aside0.mk (below_step B109.out hbg110); clear hgg110 hhg110 hbg110 B109) | ((with_reducible refine gate_store (t := 23) (p := _) rfl ?_); refine storeN_event (T := 23) rfl rfl rfl rfl rfl (storeVar_blk H114.out 23 0 [.int .u8 (r 0), .int .u8 (r 1), .int .u8 (r 2), .int .u8 (r 3), .int .u8 (r 4), .int .u8 (r 5), .int .u8 (r 6), .int .u8 (r 7), .int .u8 (r 8), .int .u8 (r 9), .int .u8 (r 10), .int .u8 (r 11), .int .u8 (r 12), .int .u8 (r 13), .int .u8 (r 14), .int .u8 (r 15), .int .u8 (r 16), .int .u8 (r 17), .int .u8 (r 18), .int .u8 (r 19)] (by kernel_rfl) rfl (by simp)) ?_; have H116 := Aside0.mk (show (World.setCells w111 g110 0 [.int .u8 (r 0), .int .u8 (r 1), .int .u8 (r 2), .int .u8 (r 3), .int .u8 (r 4), .int .u8 (r 5), .int .u8 (r 6), .int .u8 (r 7), .int .u8 (r 8), .int .u8 (r 9), .int .u8 (r 10), .int .u8 (r 11), .int .u8 (r 12), .int .u8 (r 13), .int .u8 (r 14), .int .u8 (r 15), .int .u8 (r 16), .int .u8 (r 17), .int .u8 (r 18), .int .u8 (r 19)]).heap[g110]? = some (.cells #[.int .u8 (r 0), .int .u8 (r 1), .int .u8 (r 2), .int .u8 (r 3), .int .u8 (r 4), .int .u8 (r 5), .int .u8 (r 6), .int .u8 (r 7), .int .u8 (r 8), .int .u8 (r 9), .int .u8 (r 10), .int .u8 (r 11), .int .u8 (r 12), .int .u8 (r 13), .int .u8 (r 14), .int .u8 (r 15), .int .u8 (r 16), .int .u8 (r 17), .int .u8 (r 18), .int .u8 (r 19)] 23 (0, 0)) from blk_setCells [] [.int .u8 (r 0), .int .u8 (r 1), .int .u8 (r 2), .int .u8 (r 3), .int .u8 (r 4), .int .u8 (r 5), .int .u8 (r 6), .int .u8 (r 7), .int .u8 (r 8), .int .u8 (r 9), .int .u8 (r 10), .int .u8 (r 11), .int .u8 (r 12), .int .u8 (r 13), .int .u8 (r 14), .int .u8 (r 15), .int .u8 (r 16), .int .u8 (r 17), .int .u8 (r 18), .int .u8 (r 19)] [.int .u8 0, .int .u8 0, .int .u8 0, .int .u8 0, .int .u8 0, .int .u8 0, .int .u8 0, .int .u8 0, .int .u8 0, .int .u8 0, .int .u8 0, .int .u8 0, .int .u8 0, .int .u8 0, .int .u8 0, .int .u8 0, .int .u8 0, .int .u8 0, .int .u8 0, .int .u8 0] [] w111 rfl H114.out); have B117 := Aside0.mk (below_setCells G112 [.int .u8 (r 0), .int .u8 (r 1), .int .u8 (r 2), .int .u8 (r 3), .int .u8 (r 4), .int .u8 (r 5), .int .u8 (r 6), .int .u8 (r 7), .int .u8 (r 8), .int .u8 (r 9), .int .u8 (r 10), .int .u8 (r 11), .int .u8 (r 12), .int .u8 (r 13), .int .u8 (r 14), .int .u8 (r 15), .int .u8 (r 16), .int .u8 (r 17), .int .u8 (r 18), .int .u8 (r 19)] 0 w111 B113.out); clear H114 B113; generalize World.setCells w111 g110 0 [.int .u8 (r 0), .int .u8 (r 1), .int .u8 (r 2), .int .u8 (r 3), .int .u8 (r 4), .int .u8 (r 5), .int .u8 (r 6), .int .u8 (r 7), .int .u8 (r 8), .int .u8 (r 9), .int .u8 (r 10), .int .u8 (r 11), .int .u8 (r 12), .int .u8 (r 13), .int .u8 (r 14), .int .u8 (r 15), .int .u8 (r 16), .int .u8 (r 17), .int .u8 (r 18), .int .u8 (r 19)] = w115 at H116 B117 ⊢; generalize Value.tuple #[.agg #[.int .u8 (r 0), .int .u8 (r 1), .int .u8 (r 2), .int .u8 (r 3), .int .u8 (r 4), .int .u8 (r 5), .int .u8 (r 6), .int .u8 (r 7), .int .u8 (r 8), .int .u8 (r 9), .int .u8 (r 10), .int .u8 (r 11), .int .u8 (r 12), .int .u8 (r 13), .int .u8 (r 14), .int .u8 (r 15), .int .u8 (r 16), .int .u8 (r 17), .int .u8 (r 18), .int .u8 (r 19)], .int .i64 0] = V118; generalize Value.agg #[.int .u8 (r 0), .int .u8 (r 1), .int .u8 (r 2), .int .u8 (r 3), .int .u8 (r 4), .int .u8 (r 5), .int .u8 (r 6), .int .u8 (r 7), .int .u8 (r 8), .int .u8 (r 9), .int .u8 (r 10), .int .u8 (r 11), .int .u8 (r 12), .int .u8 (r 13), .int .u8 (r 14), .int .u8 (r 15), .int .u8 (r 16), .int .u8 (r 17), .int .u8 (r 18), .int .u8 (r 19)] = V119))
      refine (Hh2.out w115 (HhT.out.at B117.out) B117.out).mono ?_
      rintro e w120 ⟨vp_, rfl, hR_, hb_⟩
      have B121 := Aside0.mk (below_step B117.out hb_)
      have H122 := Aside0.mk (blk_below H116.out hb_)
      clear hb_ B117 H116
      obtain ⟨rp, cp, rfl, hle_, hC_⟩ := Kd.R_reads hR_
      obtain ⟨m, hm_⟩ : ∃ m : Nat, m = ps.length := ⟨_, rfl⟩
      rw [← hm_]
      have Hm := Aside0.mk hm_
      rw [← hm_] at hC_ hle_
      clear hm_
      have BWP := Aside0.mk B121.out
      have RP := Aside0.mk hC_
      have LP := Aside0.mk hle_
      clear hC_ hle_ hR_
      have H18P := Aside0.mk H122.out
      have qm1 : ((q : Int) < ((m : Nat) : Int)) = True := eq_true (by have := Hm.out; have := Hhw.out; omega)
      have qm2 : (((m : Nat) : Int) ≤ (q : Int)) = False := eq_false (by have := Hm.out; have := Hhw.out; omega)
      have qm3 : (q < m) = True := eq_true (by have := Hm.out; have := Hhw.out; omega)
      have qm4 : (m ≤ q) = False := eq_false (by have := Hm.out; have := Hhw.out; omega)
      have qm5 : (q < ps.length) = True := eq_true Hhw.out
      have qm6 : ((q : Int) < ((ps.length : Nat) : Int)) = True := eq_true (by have := Hhw.out; omega)
      have BP0 := Aside0.mk (Below.refl w120.heap.size w120)
      go_wp2_with (first | ((with_reducible refine gate_dst (N := 127) rfl ?_); refine Kd.R_lit kdg (w0 := w120) _ 23 ?hg (N := 127) ?hd (xs := ([] : List Dg)) (inner := []) (ok := fun _ => True) (okp := fun _ => True) ?hr ?hp (fun _ hk => hk) trivial BP0.out (below_size BP0.out) (by simp) ?_; (case hd => rfl); (case hg => rfl); (case hr => first | (go_simp; done) | (go_simp; rfl)); (case hp => exact ⟨rfl, fun j p h => by simp at h⟩); intro v124 w123 ho_ hb_ hg_ _; have HO125 := Aside0.mk ho_; have H126 := Aside0.mk (blk_grown H122.out hg_ (by simp)); have B127 := Aside0.mk (below_step BWP.out hb_); have B128 := Aside0.mk hb_; clear ho_ hb_ hg_ H122 B121 BP0) | ((with_reducible refine gate_dst (N := 129) rfl ?_); (with_reducible refine gate_builtin (b := .append) (xs := #[.tmp 127, .tmp 128]) rfl ?_); at_builtin; refine Kd.R_append_rows kdg (w0 := w120) w120.heap.size rfl (.tmp 127) (.tmp 128) 55 23 (.agg #[.int .u8 0, .int .u8 0, .int .u8 0, .int .u8 0, .int .u8 0, .int .u8 0, .int .u8 0, .int .u8 0, .int .u8 0, .int .u8 0, .int .u8 0, .int .u8 0, .int .u8 0, .int .u8 0, .int .u8 0, .int .u8 0, .int .u8 0, .int .u8 0, .int .u8 0, .int .u8 0]) 20 rfl Tryd.underlying55 info23p rfl (by decide) (by decide) _ [] ps _ _ _ (fun _ => True) (fun _ => False) rfl rfl ?aO ?aR (fun _ _ h => h) (fun _ h => h.elim) ?aF ?aB ?aS ?aL ?_; (case aR => exact (Kd.C_below RP.out B128.out)); (case aB => exact B128.out); (case aF => exact (fun _ _ => trivial)); (case aO => exact HO125.out); (case aS => exact below_size B128.out); (case aL => have := Hm.out; have := Hhq.out; simp only [List.length_nil]; omega); intro v130 w129 ho hb hg hat; have HO131 := Aside0.mk (show Kd.R kdg 23 w129 w120.heap.size (fun _ => True) v130 ps from ho); have B132 := Aside0.mk (below_step BWP.out hb); have B133 := Aside0.mk hb; clear ho hb hg hat HO125 H126 B127 B128; obtain ⟨ad2, cap2, rfl, hp_⟩ := dg_put HO131.out (by have := Hhw.out; omega); clear hp_; have hm_ := Hm.out; have HO9 := Aside0.mk HO131.out; clear HO131))
      have HO8 := Aside0.mk HO9.out
      clear HO9
      obtain ⟨pd, hpd⟩ : ∃ pd : Dg, pd = ps.getD q zdg := ⟨_, rfl⟩
      have HPD := Aside0.mk hpd
      clear hpd
      go_wp2_with fail
      have HO137 := Aside0.mk (Kd.R_drew HO8.out)
      have B135 := Aside0.mk (below_drew B132.out)
      have B136 := Aside0.mk (below_drew B133.out)
      clear B132 B133
      clear HO8
      refine start_ (n := 9) (S := fun w' => w'.cell? (ad2.add (q * 20)) = some (.int .u8 (pd 0))) (ds := [8]) #[false, false, false, false, false, false, false, false, false] (by kernel_rfl) rfl rfl ((by rw [HPD.out]; exact (dg_at HO137.out q Hhw.out).1)) (fun hHeld => ?_)
      generalize World.drew w129 = w134 at B135 B136 HO137 hHeld ⊢
      refine pure_ (i := 0) (N := some 130) (v := ?_) (a' := ?_) #[true, false, false, false, false, false, false, false, false] rfl rfl (by kernel_rfl) (fun _ _ _ h => h) (Or.inl ⟨by rfl, ?_⟩) ?_ ?_
      rotate_left
      · intro w'
        go_simp
        with_reducible rfl
      rotate_left
      · simp only [Act.put, List.setIfInBounds_toArray, List.set_cons_zero, List.set_cons_succ, i64_w, i32_w]
        rfl
      refine pure_ (i := 1) (N := some 131) (v := ?_) (a' := ?_) #[true, true, false, false, false, false, false, false, false] rfl rfl (by kernel_rfl) (fun _ _ _ h => h) (Or.inl ⟨by rfl, ?_⟩) ?_ ?_
      rotate_left
      · intro w'
        go_simp
        with_reducible rfl
      rotate_left
      · simp only [Act.put, List.setIfInBounds_toArray, List.set_cons_zero, List.set_cons_succ, i64_w, i32_w]
        rfl
      refine pure_ (i := 2) (N := some 132) (v := ?_) (a' := ?_) #[true, true, true, false, false, false, false, false, false] rfl rfl (by kernel_rfl) (fun _ _ _ h => h) (Or.inl ⟨by rfl, ?_⟩) ?_ ?_
      rotate_left
      · intro w'
        go_simp
        with_reducible rfl
      rotate_left
      · simp only [Act.put, List.setIfInBounds_toArray, List.set_cons_zero, List.set_cons_succ, i64_w, i32_w]
        rfl
      refine pure_ (i := 3) (N := some 133) (v := ?_) (a' := ?_) #[true, true, true, true, false, false, false, false, false] rfl rfl (by kernel_rfl) (fun _ _ _ h => h) (Or.inl ⟨by rfl, ?_⟩) ?_ ?_
      rotate_left
      · intro w'
        go_simp
        with_reducible rfl
      rotate_left
      · simp only [Act.put, List.setIfInBounds_toArray, List.set_cons_zero, List.set_cons_succ, i64_w, i32_w]
        rfl
      refine pure_ (i := 6) (N := some 136) (v := ?_) (a' := ?_) #[true, true, true, true, false, false, true, false, false] rfl rfl (by kernel_rfl) (fun _ _ _ h => h) (Or.inl ⟨by rfl, ?_⟩) ?_ ?_
      rotate_left
      · intro w'
        go_simp
        with_reducible rfl
      rotate_left
      · simp only [Act.put, List.setIfInBounds_toArray, List.set_cons_zero, List.set_cons_succ, i64_w, i32_w]
        rfl
      refine take_ (i := 4) (N := some 134) (v := ?_) (a' := ?_) #[true, true, true, true, true, false, true, false, false] rfl rfl (by kernel_rfl) (fun _ _ _ h => h) (Or.inl ⟨by rfl, ?_⟩) hHeld ?_ ?_
      rotate_left
      · intro w' s0
        go_simp
        with_reducible rfl
      rotate_left
      · simp only [Act.put, List.setIfInBounds_toArray, List.set_cons_zero, List.set_cons_succ, i64_w, i32_w]
        rfl
      refine pure_ (i := 5) (N := some 135) (v := ?_) (a' := ?_) #[true, true, true, true, true, true, true, false, false] rfl rfl (by kernel_rfl) (fun _ _ _ h => h) (Or.inl ⟨by rfl, ?_⟩) ?_ ?_
      rotate_left
      · intro w'
        go_simp
        with_reducible rfl
      rotate_left
      · simp only [Act.put, List.setIfInBounds_toArray, List.set_cons_zero, List.set_cons_succ, i64_w, i32_w]
        rfl
      refine pure_ (i := 7) (N := some 137) (v := ?_) (a' := ?_) #[true, true, true, true, true, true, true, true, false] rfl rfl (by kernel_rfl) (fun _ _ _ h => h) (Or.inl ⟨by rfl, ?_⟩) ?_ ?_
      rotate_left
      · intro w'
        go_simp
        with_reducible rfl
      rotate_left
      · simp only [Act.put, List.setIfInBounds_toArray, List.set_cons_zero, List.set_cons_succ, i64_w, i32_w]
        rfl
      refine last_ (i := 8) (N := none) #[true, true, true, true, true, true, true, true, true] rfl rfl (by kernel_rfl) (by decide) (fun K hK => ?_)
      obtain ⟨w6, hs_, hR_, hk_⟩ := (dg_at HO137.out q Hhw.out).2 (Go.bits .xor .u8 (pd 0) 1)
      have HS6 := Aside0.mk hs_
      have HR6 := Aside0.mk hR_
      have BP6 := Aside0.mk (hk_ w120 (Nat.le_refl _) B136.out)
      have BW6 := Aside0.mk (below_step BWP.out BP6.out)
      clear hs_ hR_ hk_ HO137 B135 B136
      refine skip_ (w1 := w6) (by rfl) rfl (by exact storeA_run rfl rfl rfl HS6.out) ?_
      clear HS6
      refine hK.out _ _ ?_
      clear hK K
      refine done_ (by kernel_rfl) ?_
      have H18Q := Aside0.mk (blk_below H18P.out BP6.out)
      obtain ⟨hn_, hle_, hC_⟩ := Kd.R_reads' HR6.out
      rw [← hn_, HPD.out] at hC_
      have HCR := Aside0.mk hC_
      have HLE := Aside0.mk hle_
      clear hn_ hle_ hC_ HR6
      have c0 := Hhcell.out _ BW6.out
      go_wp2_with fail
      clear c0
      refine (Hh3.out w6 (HhT.out.at BW6.out) BW6.out).mono ?_
      rintro e w138 ⟨rfl, hb_⟩
      have B139 := Aside0.mk (below_step BW6.out hb_)
      have B140 := Aside0.mk (below_step BP6.out hb_)
      have B141 := Aside0.mk (hb_)
      have H142 := Aside0.mk (blk_below H18Q.out hb_)
      clear hb_ BW6 BP6 H18Q
      go_wp2_with (first | ((with_reducible refine gate_dst (N := 23) rfl ?_); refine box_event ?hg (N := 23) ?hd (cs := #[.int .u8 0, .int .u8 0, .int .u8 0, .int .u8 0, .int .u8 0, .int .u8 0, .int .u8 0, .int .u8 0, .int .u8 0, .int .u8 0, .int .u8 0, .int .u8 0, .int .u8 0, .int .u8 0, .int .u8 0, .int .u8 0, .int .u8 0, .int .u8 0, .int .u8 0, .int .u8 0]) (t := 23) ?hr ?_; (case hd => rfl); (case hg => rfl); (case hr => first | (go_simp; done) | (go_simp; rfl)); intro g143 hgg143 w144 hhg143 hbg143; have H153 := Aside0.mk hhg143; have N145 : g110 ≠ g143 := Nat.ne_of_lt (Nat.lt_of_lt_of_eq (blk_lt H142.out) hgg143.symm); have G146 : w.heap.size ≤ g143 := Nat.le_trans B139.out.size (Nat.le_of_eq hgg143.symm); have G147 : w120.heap.size ≤ g143 := Nat.le_trans B140.out.size (Nat.le_of_eq hgg143.symm); have G148 : w6.heap.size ≤ g143 := Nat.le_trans B141.out.size (Nat.le_of_eq hgg143.symm); have B149 := Aside0.mk (below_step B139.out hbg143); have B150 := Aside0.mk (below_step B140.out hbg143); have B151 := Aside0.mk (below_step B141.out hbg143); have H152 := Aside0.mk (blk_below H142.out hbg143); clear hgg143 hhg143 hbg143 B139 B140 B141 H142) | ((with_reducible refine gate_store (t := 23) (p := _) rfl ?_); refine storeN_event (T := 23) rfl rfl rfl rfl rfl (storeVar_blk H153.out 23 0 [.int .u8 (z 0), .int .u8 (z 1), .int .u8 (z 2), .int .u8 (z 3), .int .u8 (z 4), .int .u8 (z 5), .int .u8 (z 6), .int .u8 (z 7), .int .u8 (z 8), .int .u8 (z 9), .int .u8 (z 10), .int .u8 (z 11), .int .u8 (z 12), .int .u8 (z 13), .int .u8 (z 14), .int .u8 (z 15), .int .u8 (z 16), .int .u8 (z 17), .int .u8 (z 18), .int .u8 (z 19)] (by kernel_rfl) rfl (by simp)) ?_; have H155 := Aside0.mk (show (World.setCells w144 g143 0 [.int .u8 (z 0), .int .u8 (z 1), .int .u8 (z 2), .int .u8 (z 3), .int .u8 (z 4), .int .u8 (z 5), .int .u8 (z 6), .int .u8 (z 7), .int .u8 (z 8), .int .u8 (z 9), .int .u8 (z 10), .int .u8 (z 11), .int .u8 (z 12), .int .u8 (z 13), .int .u8 (z 14), .int .u8 (z 15), .int .u8 (z 16), .int .u8 (z 17), .int .u8 (z 18), .int .u8 (z 19)]).heap[g143]? = some (.cells #[.int .u8 (z 0), .int .u8 (z 1), .int .u8 (z 2), .int .u8 (z 3), .int .u8 (z 4), .int .u8 (z 5), .int .u8 (z 6), .int .u8 (z 7), .int .u8 (z 8), .int .u8 (z 9), .int .u8 (z 10), .int .u8 (z 11), .int .u8 (z 12), .int .u8 (z 13), .int .u8 (z 14), .int .u8 (z 15), .int .u8 (z 16), .int .u8 (z 17), .int .u8 (z 18), .int .u8 (z 19)] 23 (0, 0)) from blk_setCells [] [.int .u8 (z 0), .int .u8 (z 1), .int .u8 (z 2), .int .u8 (z 3), .int .u8 (z 4), .int .u8 (z 5), .int .u8 (z 6), .int .u8 (z 7), .int .u8 (z 8), .int .u8 (z 9), .int .u8 (z 10), .int .u8 (z 11), .int .u8 (z 12), .int .u8 (z 13), .int .u8 (z 14), .int .u8 (z 15), .int .u8 (z 16), .int .u8 (z 17), .int .u8 (z 18), .int .u8 (z 19)] [.int .u8 0, .int .u8 0, .int .u8 0, .int .u8 0, .int .u8 0, .int .u8 0, .int .u8 0, .int .u8 0, .int .u8 0, .int .u8 0, .int .u8 0, .int .u8 0, .int .u8 0, .int .u8 0, .int .u8 0, .int .u8 0, .int .u8 0, .int .u8 0, .int .u8 0, .int .u8 0] [] w144 rfl H153.out); have H156 := Aside0.mk (far_setCells N145 [.int .u8 (z 0), .int .u8 (z 1), .int .u8 (z 2), .int .u8 (z 3), .int .u8 (z 4), .int .u8 (z 5), .int .u8 (z 6), .int .u8 (z 7), .int .u8 (z 8), .int .u8 (z 9), .int .u8 (z 10), .int .u8 (z 11), .int .u8 (z 12), .int .u8 (z 13), .int .u8 (z 14), .int .u8 (z 15), .int .u8 (z 16), .int .u8 (z 17), .int .u8 (z 18), .int .u8 (z 19)] 0 w144 H152.out); have B157 := Aside0.mk (below_setCells G146 [.int .u8 (z 0), .int .u8 (z 1), .int .u8 (z 2), .int .u8 (z 3), .int .u8 (z 4), .int .u8 (z 5), .int .u8 (z 6), .int .u8 (z 7), .int .u8 (z 8), .int .u8 (z 9), .int .u8 (z 10), .int .u8 (z 11), .int .u8 (z 12), .int .u8 (z 13), .int .u8 (z 14), .int .u8 (z 15), .int .u8 (z 16), .int .u8 (z 17), .int .u8 (z 18), .int .u8 (z 19)] 0 w144 B149.out); have B158 := Aside0.mk (below_setCells G147 [.int .u8 (z 0), .int .u8 (z 1), .int .u8 (z 2), .int .u8 (z 3), .int .u8 (z 4), .int .u8 (z 5), .int .u8 (z 6), .int .u8 (z 7), .int .u8 (z 8), .int .u8 (z 9), .int .u8 (z 10), .int .u8 (z 11), .int .u8 (z 12), .int .u8 (z 13), .int .u8 (z 14), .int .u8 (z 15), .int .u8 (z 16), .int .u8 (z 17), .int .u8 (z 18), .int .u8 (z 19)] 0 w144 B150.out); have B159 := Aside0.mk (below_setCells G148 [.int .u8 (z 0), .int .u8 (z 1), .int .u8 (z 2), .int .u8 (z 3), .int .u8 (z 4), .int .u8 (z 5), .int .u8 (z 6), .int .u8 (z 7), .int .u8 (z 8), .int .u8 (z 9), .int .u8 (z 10), .int .u8 (z 11), .int .u8 (z 12), .int .u8 (z 13), .int .u8 (z 14), .int .u8 (z 15), .int .u8 (z 16), .int .u8 (z 17), .int .u8 (z 18), .int .u8 (z 19)] 0 w144 B151.out); clear H153 H152 B149 B150 B151; generalize World.setCells w144 g143 0 [.int .u8 (z 0), .int .u8 (z 1), .int .u8 (z 2), .int .u8 (z 3), .int .u8 (z 4), .int .u8 (z 5), .int .u8 (z 6), .int .u8 (z 7), .int .u8 (z 8), .int .u8 (z 9), .int .u8 (z 10), .int .u8 (z 11), .int .u8 (z 12), .int .u8 (z 13), .int .u8 (z 14), .int .u8 (z 15), .int .u8 (z 16), .int .u8 (z 17), .int .u8 (z 18), .int .u8 (z 19)] = w154 at H156 H155 B157 B158 B159 ⊢; generalize Value.tuple #[.agg #[.int .u8 (z 0), .int .u8 (z 1), .int .u8 (z 2), .int .u8 (z 3), .int .u8 (z 4), .int .u8 (z 5), .int .u8 (z 6), .int .u8 (z 7), .int .u8 (z 8), .int .u8 (z 9), .int .u8 (z 10), .int .u8 (z 11), .int .u8 (z 12), .int .u8 (z 13), .int .u8 (z 14), .int .u8 (z 15), .int .u8 (z 16), .int .u8 (z 17), .int .u8 (z 18), .int .u8 (z 19)], .int .i64 0] = V160; generalize Value.agg #[.int .u8 (z 0), .int .u8 (z 1), .int .u8 (z 2), .int .u8 (z 3), .int .u8 (z 4), .int .u8 (z 5), .int .u8 (z 6), .int .u8 (z 7), .int .u8 (z 8), .int .u8 (z 9), .int .u8 (z 10), .int .u8 (z 11), .int .u8 (z 12), .int .u8 (z 13), .int .u8 (z 14), .int .u8 (z 15), .int .u8 (z 16), .int .u8 (z 17), .int .u8 (z 18), .int .u8 (z 19)] = V161) | ((with_reducible refine gate_dst (N := 150) rfl ?_); refine loadG_event (T := 23) (by rfl) rfl rfl (run_loadVar_row _ _ _ _ _ (0, 0) _ H155.out Tryd.underlying23 rfl (by kernel_rfl)) ?_))
      refine (Hh4.out w154 (some ad2) cap2 ps.length rfl (HhT.out.at B157.out) (Kd.C_below HCR.out B159.out)).mono ?_
      rintro e w162 ⟨rfl, hb_⟩
      have B163 := Aside0.mk (below_step B157.out hb_)
      have B164 := Aside0.mk (below_step B158.out hb_)
      have B165 := Aside0.mk (below_step B159.out hb_)
      have H166 := Aside0.mk (blk_below H156.out hb_)
      have H167 := Aside0.mk (blk_below H155.out hb_)
      clear hb_ B157 B158 B159 H156 H155
      go_wp2_with (first | ((with_reducible refine gate_dst (N := 25) rfl ?_); refine box_event ?hg (N := 25) ?hd (cs := #[.int .u8 0, .int .u8 0, .int .u8 0, .int .u8 0, .int .u8 0, .int .u8 0, .int .u8 0, .int .u8 0, .int .u8 0, .int .u8 0, .int .u8 0, .int .u8 0, .int .u8 0, .int .u8 0, .int .u8 0, .int .u8 0, .int .u8 0, .int .u8 0, .int .u8 0, .int .u8 0]) (t := 23) ?hr ?_; (case hd => rfl); (case hg => rfl); (case hr => first | (go_simp; done) | (go_simp; rfl)); intro g168 hgg168 w169 hhg168 hbg168; have H180 := Aside0.mk hhg168; have N170 : g110 ≠ g168 := Nat.ne_of_lt (Nat.lt_of_lt_of_eq (blk_lt H166.out) hgg168.symm); have N171 : g143 ≠ g168 := Nat.ne_of_lt (Nat.lt_of_lt_of_eq (blk_lt H167.out) hgg168.symm); have G172 : w.heap.size ≤ g168 := Nat.le_trans B163.out.size (Nat.le_of_eq hgg168.symm); have G173 : w120.heap.size ≤ g168 := Nat.le_trans B164.out.size (Nat.le_of_eq hgg168.symm); have G174 : w6.heap.size ≤ g168 := Nat.le_trans B165.out.size (Nat.le_of_eq hgg168.symm); have B175 := Aside0.mk (below_step B163.out hbg168); have B176 := Aside0.mk (below_step B164.out hbg168); have B177 := Aside0.mk (below_step B165.out hbg168); have H178 := Aside0.mk (blk_below H166.out hbg168); have H179 := Aside0.mk (blk_below H167.out hbg168); clear hgg168 hhg168 hbg168 B163 B164 B165 H166 H167) | ((with_reducible refine gate_store (t := 23) (p := _) rfl ?_); refine storeN_event (T := 23) rfl rfl rfl rfl rfl (storeVar_blk H180.out 23 0 [.int .u8 (u 0), .int .u8 (u 1), .int .u8 (u 2), .int .u8 (u 3), .int .u8 (u 4), .int .u8 (u 5), .int .u8 (u 6), .int .u8 (u 7), .int .u8 (u 8), .int .u8 (u 9), .int .u8 (u 10), .int .u8 (u 11), .int .u8 (u 12), .int .u8 (u 13), .int .u8 (u 14), .int .u8 (u 15), .int .u8 (u 16), .int .u8 (u 17), .int .u8 (u 18), .int .u8 (u 19)] (by kernel_rfl) rfl (by simp)) ?_; have H182 := Aside0.mk (show (World.setCells w169 g168 0 [.int .u8 (u 0), .int .u8 (u 1), .int .u8 (u 2), .int .u8 (u 3), .int .u8 (u 4), .int .u8 (u 5), .int .u8 (u 6), .int .u8 (u 7), .int .u8 (u 8), .int .u8 (u 9), .int .u8 (u 10), .int .u8 (u 11), .int .u8 (u 12), .int .u8 (u 13), .int .u8 (u 14), .int .u8 (u 15), .int .u8 (u 16), .int .u8 (u 17), .int .u8 (u 18), .int .u8 (u 19)]).heap[g168]? = some (.cells #[.int .u8 (u 0), .int .u8 (u 1), .int .u8 (u 2), .int .u8 (u 3), .int .u8 (u 4), .int .u8 (u 5), .int .u8 (u 6), .int .u8 (u 7), .int .u8 (u 8), .int .u8 (u 9), .int .u8 (u 10), .int .u8 (u 11), .int .u8 (u 12), .int .u8 (u 13), .int .u8 (u 14), .int .u8 (u 15), .int .u8 (u 16), .int .u8 (u 17), .int .u8 (u 18), .int .u8 (u 19)] 23 (0, 0)) from blk_setCells [] [.int .u8 (u 0), .int .u8 (u 1), .int .u8 (u 2), .int .u8 (u 3), .int .u8 (u 4), .int .u8 (u 5), .int .u8 (u 6), .int .u8 (u 7), .int .u8 (u 8), .int .u8 (u 9), .int .u8 (u 10), .int .u8 (u 11), .int .u8 (u 12), .int .u8 (u 13), .int .u8 (u 14), .int .u8 (u 15), .int .u8 (u 16), .int .u8 (u 17), .int .u8 (u 18), .int .u8 (u 19)] [.int .u8 0, .int .u8 0, .int .u8 0, .int .u8 0, .int .u8 0, .int .u8 0, .int .u8 0, .int .u8 0, .int .u8 0, .int .u8 0, .int .u8 0, .int .u8 0, .int .u8 0, .int .u8 0, .int .u8 0, .int .u8 0, .int .u8 0, .int .u8 0, .int .u8 0, .int .u8 0] [] w169 rfl H180.out); have H183 := Aside0.mk (far_setCells N170 [.int .u8 (u 0), .int .u8 (u 1), .int .u8 (u 2), .int .u8 (u 3), .int .u8 (u 4), .int .u8 (u 5), .int .u8 (u 6), .int .u8 (u 7), .int .u8 (u 8), .int .u8 (u 9), .int .u8 (u 10), .int .u8 (u 11), .int .u8 (u 12), .int .u8 (u 13), .int .u8 (u 14), .int .u8 (u 15), .int .u8 (u 16), .int .u8 (u 17), .int .u8 (u 18), .int .u8 (u 19)] 0 w169 H178.out); have H184 := Aside0.mk (far_setCells N171 [.int .u8 (u 0), .int .u8 (u 1), .int .u8 (u 2), .int .u8 (u 3), .int .u8 (u 4), .int .u8 (u 5), .int .u8 (u 6), .int .u8 (u 7), .int .u8 (u 8), .int .u8 (u 9), .int .u8 (u 10), .int .u8 (u 11), .int .u8 (u 12), .int .u8 (u 13), .int .u8 (u 14), .int .u8 (u 15), .int .u8 (u 16), .int .u8 (u 17), .int .u8 (u 18), .int .u8 (u 19)] 0 w169 H179.out); have B185 := Aside0.mk (below_setCells G172 [.int .u8 (u 0), .int .u8 (u 1), .int .u8 (u 2), .int .u8 (u 3), .int .u8 (u 4), .int .u8 (u 5), .int .u8 (u 6), .int .u8 (u 7), .int .u8 (u 8), .int .u8 (u 9), .int .u8 (u 10), .int .u8 (u 11), .int .u8 (u 12), .int .u8 (u 13), .int .u8 (u 14), .int .u8 (u 15), .int .u8 (u 16), .int .u8 (u 17), .int .u8 (u 18), .int .u8 (u 19)] 0 w169 B175.out); have B186 := Aside0.mk (below_setCells G173 [.int .u8 (u 0), .int .u8 (u 1), .int .u8 (u 2), .int .u8 (u 3), .int .u8 (u 4), .int .u8 (u 5), .int .u8 (u 6), .int .u8 (u 7), .int .u8 (u 8), .int .u8 (u 9), .int .u8 (u 10), .int .u8 (u 11), .int .u8 (u 12), .int .u8 (u 13), .int .u8 (u 14), .int .u8 (u 15), .int .u8 (u 16), .int .u8 (u 17), .int .u8 (u 18), .int .u8 (u 19)] 0 w169 B176.out); have B187 := Aside0.mk (below_setCells G174 [.int .u8 (u 0), .int .u8 (u 1), .int .u8 (u 2), .int .u8 (u 3), .int .u8 (u 4), .int .u8 (u 5), .int .u8 (u 6), .int .u8 (u 7), .int .u8 (u 8), .int .u8 (u 9), .int .u8 (u 10), .int .u8 (u 11), .int .u8 (u 12), .int .u8 (u 13), .int .u8 (u 14), .int .u8 (u 15), .int .u8 (u 16), .int .u8 (u 17), .int .u8 (u 18), .int .u8 (u 19)] 0 w169 B177.out); clear H180 H178 H179 B175 B176 B177; generalize World.setCells w169 g168 0 [.int .u8 (u 0), .int .u8 (u 1), .int .u8 (u 2), .int .u8 (u 3), .int .u8 (u 4), .int .u8 (u 5), .int .u8 (u 6), .int .u8 (u 7), .int .u8 (u 8), .int .u8 (u 9), .int .u8 (u 10), .int .u8 (u 11), .int .u8 (u 12), .int .u8 (u 13), .int .u8 (u 14), .int .u8 (u 15), .int .u8 (u 16), .int .u8 (u 17), .int .u8 (u 18), .int .u8 (u 19)] = w181 at H183 H184 H182 B185 B186 B187 ⊢; generalize Value.tuple #[.agg #[.int .u8 (u 0), .int .u8 (u 1), .int .u8 (u 2), .int .u8 (u 3), .int .u8 (u 4), .int .u8 (u 5), .int .u8 (u 6), .int .u8 (u 7), .int .u8 (u 8), .int .u8 (u 9), .int .u8 (u 10), .int .u8 (u 11), .int .u8 (u 12), .int .u8 (u 13), .int .u8 (u 14), .int .u8 (u 15), .int .u8 (u 16), .int .u8 (u 17), .int .u8 (u 18), .int .u8 (u 19)], .int .i64 0] = V188; generalize Value.agg #[.int .u8 (u 0), .int .u8 (u 1), .int .u8 (u 2), .int .u8 (u 3), .int .u8 (u 4), .int .u8 (u 5), .int .u8 (u 6), .int .u8 (u 7), .int .u8 (u 8), .int .u8 (u 9), .int .u8 (u 10), .int .u8 (u 11), .int .u8 (u 12), .int .u8 (u 13), .int .u8 (u 14), .int .u8 (u 15), .int .u8 (u 16), .int .u8 (u 17), .int .u8 (u 18), .int .u8 (u 19)] = V189))
      have H191 := Aside0.mk (blk_drew H183.out)
      have H192 := Aside0.mk (blk_drew H184.out)
      have H193 := Aside0.mk (blk_drew H182.out)
      have B194 := Aside0.mk (below_drew B185.out)
      have B195 := Aside0.mk (below_drew B186.out)
      have B196 := Aside0.mk (below_drew B187.out)
      clear H183 H184 H182 B185 B186 B187
      refine start_ (n := 15) (S := fun w' => (loadVar 23 ⟨g110, 0, none⟩).run Tryd.prog w' = .ok (.agg #[.int .u8 (r 0), .int .u8 (r 1), .int .u8 (r 2), .int .u8 (r 3), .int .u8 (r 4), .int .u8 (r 5), .int .u8 (r 6), .int .u8 (r 7), .int .u8 (r 8), .int .u8 (r 9), .int .u8 (r 10), .int .u8 (r 11), .int .u8 (r 12), .int .u8 (r 13), .int .u8 (r 14), .int .u8 (r 15), .int .u8 (r 16), .int .u8 (r 17), .int .u8 (r 18), .int .u8 (r 19)]) w' ∧ w'.cell? (ad.add p) = some (.slice Ai x.length ci)) (ds := []) #[false, false, false, false, false, false, false, false, false, false, false, false, false, false, false] (by kernel_rfl) rfl rfl ⟨(run_loadVar_row _ _ _ _ _ (0, 0) _ H191.out Tryd.underlying23 rfl (by kernel_rfl)), (Hhcell.out _ B194.out)⟩ (fun hHeld => ?_)
      generalize World.drew w181 = w190 at H191 H192 H193 B194 B195 B196 hHeld ⊢
      refine pure_ (i := 1) (N := some 157) (v := ?_) (a' := ?_) #[false, true, false, false, false, false, false, false, false, false, false, false, false, false, false] rfl rfl (by kernel_rfl) (fun _ _ _ h => h) (Or.inl ⟨by rfl, ?_⟩) ?_ ?_
      rotate_left
      · intro w'
        go_simp
        with_reducible rfl
      rotate_left
      · simp only [Act.put, List.setIfInBounds_toArray, List.set_cons_zero, List.set_cons_succ, i64_w, i32_w]
        rfl
      refine pure_ (i := 2) (N := some 158) (v := ?_) (a' := ?_) #[false, true, true, false, false, false, false, false, false, false, false, false, false, false, false] rfl rfl (by kernel_rfl) (fun _ _ _ h => h) (Or.inl ⟨by rfl, ?_⟩) ?_ ?_
      rotate_left
      · intro w'
        go_simp
        with_reducible rfl
      rotate_left
      · simp only [Act.put, List.setIfInBounds_toArray, List.set_cons_zero, List.set_cons_succ, i64_w, i32_w]
        rfl
      refine pure_ (i := 3) (N := some 159) (v := ?_) (a' := ?_) #[false, true, true, true, false, false, false, false, false, false, false, false, false, false, false] rfl rfl (by kernel_rfl) (fun _ _ _ h => h) (Or.inl ⟨by rfl, ?_⟩) ?_ ?_
      rotate_left
      · intro w'
        go_simp
        with_reducible rfl
      rotate_left
      · simp only [Act.put, List.setIfInBounds_toArray, List.set_cons_zero, List.set_cons_succ, i64_w, i32_w]
        rfl
      refine pure_ (i := 4) (N := some 160) (v := ?_) (a' := ?_) #[false, true, true, true, true, false, false, false, false, false, false, false, false, false, false] rfl rfl (by kernel_rfl) (fun _ _ _ h => h) (Or.inl ⟨by rfl, ?_⟩) ?_ ?_
      rotate_left
      · intro w'
        go_simp
        with_reducible rfl
      rotate_left
      · simp only [Act.put, List.setIfInBounds_toArray, List.set_cons_zero, List.set_cons_succ, i64_w, i32_w]
        rfl
      refine pure_ (i := 5) (N := some 161) (v := ?_) (a' := ?_) #[false, true, true, true, true, true, false, false, false, false, false, false, false, false, false] rfl rfl (by kernel_rfl) (fun _ _ _ h => h) (Or.inl ⟨by rfl, ?_⟩) ?_ ?_
      rotate_left
      · intro w'
        go_simp
        with_reducible rfl
      rotate_left
      · simp only [Act.put, List.setIfInBounds_toArray, List.set_cons_zero, List.set_cons_succ, i64_w, i32_w]
        rfl
      refine pure_ (i := 6) (N := some 162) (v := ?_) (a' := ?_) #[false, true, true, true, true, true, true, false, false, false, false, false, false, false, false] rfl rfl (by kernel_rfl) (fun _ _ _ h => h) (Or.inl ⟨by rfl, ?_⟩) ?_ ?_
      rotate_left
      · intro w'
        go_simp
        with_reducible rfl
      rotate_left
      · simp only [Act.put, List.setIfInBounds_toArray, List.set_cons_zero, List.set_cons_succ, i64_w, i32_w]
        rfl
      refine pure_ (i := 8) (N := some 164) (v := ?_) (a' := ?_) #[false, true, true, true, true, true, true, false, true, false, false, false, false, false, false] rfl rfl (by kernel_rfl) (fun _ _ _ h => h) (Or.inl ⟨by rfl, ?_⟩) ?_ ?_
      rotate_left
      · intro w'
        go_simp
        with_reducible rfl
      rotate_left
      · simp only [Act.put, List.setIfInBounds_toArray, List.set_cons_zero, List.set_cons_succ, i64_w, i32_w]
        rfl
      refine take_ (i := 0) (N := some 156) (v := ?_) (a' := ?_) #[true, true, true, true, true, true, true, false, true, false, false, false, false, false, false] rfl rfl (by kernel_rfl) (fun _ _ _ h => h) (Or.inl ⟨by rfl, ?_⟩) hHeld ?_ ?_
      rotate_left
      · rintro w' ⟨s0, s1⟩
        refine (loadN_run (T := 23) rfl rfl s0).trans ?_
        with_reducible rfl
      rotate_left
      · simp only [Act.put, List.setIfInBounds_toArray, List.set_cons_zero, List.set_cons_succ, i64_w, i32_w]
        rfl
      refine take_ (i := 7) (N := some 163) (v := ?_) (a' := ?_) #[true, true, true, true, true, true, true, true, true, false, false, false, false, false, false] rfl rfl (by kernel_rfl) (fun _ _ _ h => h) (Or.inl ⟨by rfl, ?_⟩) hHeld ?_ ?_
      rotate_left
      · rintro w' ⟨s0, s1⟩
        go_simp
        with_reducible rfl
      rotate_left
      · simp only [Act.put, List.setIfInBounds_toArray, List.set_cons_zero, List.set_cons_succ, i64_w, i32_w]
        rfl
      refine one_ (i := 9) (N := some 165) #[true, true, true, true, true, true, true, true, true, true, false, false, false, false, false] rfl rfl (by kernel_rfl) (by decide) (fun K hK => ?_)
      refine goes_ Tryd.func38 (by kernel_rfl) rfl #[.agg #[.int .u8 (r 0), .int .u8 (r 1), .int .u8 (r 2), .int .u8 (r 3), .int .u8 (r 4), .int .u8 (r 5), .int .u8 (r 6), .int .u8 (r 7), .int .u8 (r 8), .int .u8 (r 9), .int .u8 (r 10), .int .u8 (r 11), .int .u8 (r 12), .int .u8 (r 13), .int .u8 (r 14), .int .u8 (r 15), .int .u8 (r 16), .int .u8 (r 17), .int .u8 (r 18), .int .u8 (r 19)], .int .i64 ((ll.length : Nat) : Int), .int .i64 (p : Int), .slice Ai x.length ci, .slice (some ad2) ps.length cap2] (by rfl) rfl rfl (by simp only [List.map_toArray, List.map_cons, List.map_nil]; rfl) ?_
      with_reducible refine (Hh5.out w190 (some ad2) cap2 ps.length rfl (HhT.out.at B194.out) B194.out (Kd.C_below HCR.out B196.out)).mono ?_
      rintro e_ w197 ⟨rfl, hb_⟩
      refine ⟨_, rfl, ?_⟩
      have B198 := Aside0.mk (below_step B194.out hb_)
      have B199 := Aside0.mk (below_step B195.out hb_)
      have B200 := Aside0.mk (below_step B196.out hb_)
      have H201 := Aside0.mk (blk_below H191.out hb_)
      have H202 := Aside0.mk (blk_below H192.out hb_)
      have H203 := Aside0.mk (blk_below H193.out hb_)
      clear hb_ B194 B195 B196 H191 H192 H193
      refine hK.out _ _ ⟨(run_loadVar_row _ _ _ _ _ (0, 0) _ H201.out Tryd.underlying23 rfl (by kernel_rfl)), (Hhcell.out _ B198.out)⟩ (fun hHeld => ?_)
      clear hK K
      refine norm_ (a' := ?_) ?_ ?_
      rotate_left
      · show Act.put _ (some 165) _ = _
        simp only [Act.put, List.setIfInBounds_toArray, List.set_cons_zero, List.set_cons_succ, i64_w, i32_w]
        rfl
      refine pure_ (i := 10) (N := some 155) (v := ?_) (a' := ?_) #[true, true, true, true, true, true, true, true, true, true, true, false, false, false, false] rfl rfl (by kernel_rfl) (fun _ _ _ h => h) (Or.inl ⟨by rfl, ?_⟩) ?_ ?_
      rotate_left
      · intro w'
        go_simp
        with_reducible rfl
      rotate_left
      · simp only [Act.put, List.setIfInBounds_toArray, List.set_cons_zero, List.set_cons_succ, i64_w, i32_w]
        rfl
      refine pure_ (i := 11) (N := some 166) (v := ?_) (a' := ?_) #[true, true, true, true, true, true, true, true, true, true, true, true, false, false, false] rfl rfl (by kernel_rfl) (fun _ _ _ h => h) (Or.inl ⟨by rfl, ?_⟩) ?_ ?_
      rotate_left
      · intro w'
        go_simp
        with_reducible rfl
      rotate_left
      · simp only [Act.put, List.setIfInBounds_toArray, List.set_cons_zero, List.set_cons_succ, i64_w, i32_w]
        rfl
      refine pure_ (i := 12) (N := some 167) (v := ?_) (a' := ?_) #[true, true, true, true, true, true, true, true, true, true, true, true, true, false, false] rfl rfl (by kernel_rfl) (fun _ _ _ h => h) (Or.inl ⟨by rfl, ?_⟩) ?_ ?_
      rotate_left
      · intro w'
        go_simp
        with_reducible rfl
      rotate_left
      · simp only [Act.put, List.setIfInBounds_toArray, List.set_cons_zero, List.set_cons_succ, i64_w, i32_w]
        rfl
      refine pure_ (i := 13) (N := some 27) (v := ?_) (a' := ?_) #[true, true, true, true, true, true, true, true, true, true, true, true, true, true, false] rfl rfl (by kernel_rfl) (fun _ _ _ h => h) (Or.inl ⟨by rfl, ?_⟩) ?_ ?_
      rotate_left
      · intro w'
        go_simp
        with_reducible rfl
      rotate_left
      · simp only [Act.put, List.setIfInBounds_toArray, List.set_cons_zero, List.set_cons_succ, i64_w, i32_w]
        rfl
      refine pure_ (i := 14) (N := some 28) (v := ?_) (a' := ?_) #[true, true, true, true, true, true, true, true, true, true, true, true, true, true, true] rfl rfl (by kernel_rfl) (fun _ _ _ h => h) (Or.inl ⟨by rfl, ?_⟩) ?_ ?_
      rotate_left
      · intro w'
        go_simp
        with_reducible rfl
      rotate_left
      · simp only [Act.put, List.setIfInBounds_toArray, List.set_cons_zero, List.set_cons_succ, i64_w, i32_w]
        rfl
      refine done_ (by kernel_rfl) ?_
      go_wp2_with (first | ((with_reducible refine gate_dst (N := 183) rfl ?_); refine loadG_event (T := 23) (by rfl) rfl rfl (run_loadVar_row _ _ _ _ _ (0, 0) _ H203.out Tryd.underlying23 rfl (by kernel_rfl)) ?_) | ((with_reducible refine gate_dst (N := 184) rfl ?_); refine loadG_event (T := 23) (by rfl) rfl rfl (run_loadVar_row _ _ _ _ _ (0, 0) _ H201.out Tryd.underlying23 rfl (by kernel_rfl)) ?_))
      go_ret
      exact ⟨rfl, B198.out⟩
end Go.Proofs.YtbldecdipicddaaDoor.Hand
