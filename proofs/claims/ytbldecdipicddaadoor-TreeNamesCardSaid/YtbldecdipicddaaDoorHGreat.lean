/- Great, SameSums of equal lists, fit. Written by wip/s1/mkgreat.py. -/
import Derived.Test.YtbldecdipicddaaDoorDgApp
import Derived.Test.YtbldecdipicddaaDoorHEq
set_option linter.unusedSimpArgs false
set_option linter.unusedVariables false
namespace Go.Proofs.YtbldecdipicddaaDoor.Hand
open Go Go.RowKit Go.Proofs.YtbldecdipicddaaDoorW.PrintWords Go.Proofs.YtbldecdipicddaaDoorW.PrintLast
/-- The bytes that Great counts. -/
def gsum : List (List Int) → Nat
  | [] => 0
  | x :: r => min x.length 1000 + gsum r
def great (ll : List (List Int)) : Bool := decide (600 < gsum (ll.take 601)) || (decide (20 < ll.length) && decide (ll.length ≤ 600)) || decide (650 < ll.length)
theorem gsum_app : ∀ a b : List (List Int), gsum (a ++ b) = gsum a + gsum b
  | [], b => by rw [List.nil_append, gsum, Nat.zero_add]
  | x :: a, b => by rw [List.cons_append, gsum, gsum_app a b, gsum, Nat.add_assoc]
theorem gsum_take (ll : List (List Int)) (i : Nat) (h : i < ll.length) : gsum (ll.take (i + 1)) = gsum (ll.take i) + min (ll.getD i []).length 1000 := by
  rw [List.take_add_one, List.getElem?_eq_getElem h, List.getD_eq_getElem?_getD, List.getElem?_eq_getElem h, gsum_app]
  rfl
theorem gsum_le : ∀ (ll : List (List Int)) (i : Nat), gsum (ll.take i) ≤ 1000 * i
  | [], i => by rw [List.take_nil]; exact Nat.zero_le _
  | x :: ll, 0 => Nat.zero_le _
  | x :: ll, i + 1 => by
    have := gsum_le ll i
    rw [List.take_succ_cons, gsum]
    omega
theorem gsum_mem : ∀ (ll : List (List Int)) (i : Nat), i < ll.length → min (ll.getD i []).length 1000 ≤ gsum ll
  | [], i, h => by cases h
  | x :: ll, 0, h => by rw [gsum]; exact Nat.le_add_right _ _
  | x :: ll, i + 1, h => by
    have := gsum_mem ll i (by simpa using h)
    rw [gsum]
    exact Nat.le_trans this (Nat.le_add_left _ _)
theorem gsum_end (ll : List (List Int)) (i : Nat) (h : i = 601 ∨ (i = ll.length ∧ i ≤ 601)) : gsum (ll.take i) = gsum (ll.take 601) := by
  rcases h with rfl | ⟨rfl, h⟩
  · rfl
  · rw [List.take_length, List.take_of_length_le h]
theorem great_of {ll : List (List Int)} (h : great ll = false) : (ll.length ≤ 20 ∨ (600 < ll.length ∧ ll.length ≤ 650)) ∧ gsum (ll.take 601) ≤ 600 := by
  unfold great at h
  simp only [Bool.or_eq_false_iff, Bool.and_eq_false_iff, decide_eq_false_iff_not] at h
  omega
/-- A list that fits: few short strings. -/
theorem fit_of {ll : List (List Int)} (h : great ll = false) (hl : ll.length ≤ 20) (i : Nat) (hi : i < ll.length) : (ll.getD i []).length ≤ 600 := by
  have h2 := (great_of h).2
  rw [List.take_of_length_le (by omega)] at h2
  have := gsum_mem ll i hi
  omega
theorem min_len (ats : Array TypeId) (ty : TypeId) (n : Nat) : Builtin.min_ ats ty #[.int .i64 (n : Int), .int .i64 1000] = pure (.int .i64 ((min n 1000 : Nat) : Int)) := by
  have e : ((min n 1000 : Nat) : Int) = if (1000 : Int) < (n : Int) then 1000 else (n : Int) := by
    by_cases h : (1000 : Int) < (n : Int)
    · rw [if_pos h, Nat.min_eq_right (by omega)]; rfl
    · rw [if_neg h, Nat.min_eq_left (by omega)]
  rw [e]
  simp only [Builtin.min_, List.foldlM_cons, List.foldlM_nil, Builtin.min2]
  rfl
attribute [local go_sem] min_len
set_option maxHeartbeats 1600000 in
set_option maxRecDepth 100000 in
theorem great_calls (A : Option Addr) (c : Nat) (ll : List (List Int)) (w : World) (hr : Kd.C (Kd.slice 5 (Kd.int .u8)) w A ll.length ll) (hl : ll.length ≤ c) : Calls Tryd.prog 59 #[.slice A ll.length c] w fun e w' => e = .returned (.bool (great ll)) ∧ w' = w := by
  have Hhr := Aside0.mk hr
  have Hhl := Aside0.mk hl
  clear hr hl
  go_enter Tryd.func59, Tryd.ntmps59
  go_wp2_with fail
  go_loopg [3, 4] 601 (fun m v3 v4 w1 => ∃ (i q : Nat), v3 = .int .i64 (q : Int) ∧ v4 = .int .i64 (i : Int) ∧ Aside0 (i + m = 601 ∧ i ≤ ll.length ∧ i ≤ 601) ∧ Aside0 (q = gsum (ll.take i)) ∧ Aside0 (w1 = w))
  case atStart => exact ⟨0, 0, rfl, rfl, ⟨by omega⟩, ⟨rfl⟩, ⟨rfl⟩⟩
  case round =>
    obtain ⟨i, q, rfl, rfl, HK, HQ, HW⟩ := hrel
    obtain rfl := HW.out
    have HQ2 : Aside0 (q ≤ 601000) := ⟨by rw [HQ.out]; have := gsum_le ll i; have := HK.out; omega⟩
    by_cases hk : i < ll.length ∧ i ≤ 600
    · obtain ⟨go, rfl⟩ : ∃ j, gk = j + 1 := ⟨gk - 1, by have := HK.out; omega⟩
      have hi1 : ((i : Int) < ((ll.length : Nat) : Int)) = True := eq_true (by omega)
      have hi2 : (i < ll.length) = True := eq_true hk.1
      have hi3 : (0 ≤ (i : Int)) = True := eq_true (by omega)
      have hi4 : ((i : Int) ≤ 600) = True := eq_true (by omega)
      have hi5 : (i ≤ 600) = True := eq_true hk.2
      have u1 : wrap64 ((i : Int) + 1) = ((i + 1 : Nat) : Int) := by unfold wrap64; omega
      obtain ⟨i2, hi2'⟩ : ∃ x : Nat, x = i + 1 := ⟨_, rfl⟩
      rw [← hi2'] at u1
      have HI2 := Aside0.mk hi2'
      have HI := Aside0.mk hk
      obtain ⟨ad, rfl, hx_⟩ : ∃ ad, A = some ad ∧ True := by obtain ⟨ad, e, _⟩ := Hhr.out.2.2 (by omega); exact ⟨ad, e, trivial⟩
      clear hx_ hk hi2'
      obtain ⟨Ai, ci, hcell, hle_, hC_⟩ := rows_get Hhr.out i HI.out.1
      obtain ⟨x, hx⟩ : ∃ x : List Int, x = ll.getD i [] := ⟨_, rfl⟩
      have HX0 := Aside0.mk hx
      rw [← hx] at hcell hle_ hC_
      clear hC_ hle_ hx
      obtain ⟨y, hy⟩ : ∃ y, y = min x.length 1000 := ⟨_, rfl⟩
      have hml := fun ats ty => min_len ats ty x.length
      rw [← hy] at hml
      have HY := Aside0.mk hy
      have u2 : wrap64 ((q : Int) + (y : Int)) = ((q + y : Nat) : Int) := by have := HQ2.out; unfold wrap64; omega
      clear hy
      go_wp2_with fail
      go_roundg go
      case measure => have := HK.out; omega
      case rel =>
        refine ⟨i2, q + y, (by first | rfl | rw [u2] | rw [← HY.out, u2]), (by first | rfl | rw [u1]), ⟨by have := HK.out; have := HI2.out; have := HI.out; omega⟩, ⟨?_⟩, ⟨rfl⟩⟩
        rw [HI2.out, gsum_take ll i HI.out.1, ← HX0.out, ← HQ.out, HY.out]
    · have HE : Aside0 (q = gsum (ll.take 601)) := ⟨HQ.out.trans (gsum_end ll i (by have := HK.out; omega))⟩
      have HD := Aside0.mk hk
      clear hk
      by_cases hz : ll.length ≤ i
      · have HZ := Aside0.mk hz
        have c0 : ((i : Int) < ((ll.length : Nat) : Int)) = False := eq_false (by have := HD.out; omega)
        have c1 : (i < ll.length) = False := eq_false (by have := HD.out; omega)
        clear hz
        by_cases hs1 : 600 < q
        · have hs2 := True.intro; have hs3 := True.intro
          have s0 : (600 < (q : Int)) = True := eq_true (by omega)
          have s1 : (600 < q) = True := eq_true (by omega)
          have HV : Aside0 (great ll = true) := ⟨by unfold great; rw [← HE.out]; simp; omega⟩
          clear hs1 hs2 hs3
          go_wp2_with fail
          go_ret
          exact ⟨by rw [HV.out]; rfl, rfl⟩
        · by_cases hs2 : 20 < ll.length
          · by_cases hs3 : ll.length ≤ 600
            · have s0 : (600 < (q : Int)) = False := eq_false (by omega)
              have s1 : (600 < q) = False := eq_false (by omega)
              have s2 : (20 < ((ll.length : Nat) : Int)) = True := eq_true (by omega)
              have s3 : (20 < ll.length) = True := eq_true (by omega)
              have s4 : (((ll.length : Nat) : Int) ≤ 600) = True := eq_true (by omega)
              have s5 : (ll.length ≤ 600) = True := eq_true (by omega)
              have HV : Aside0 (great ll = true) := ⟨by unfold great; rw [← HE.out]; simp; omega⟩
              clear hs1 hs2 hs3
              go_wp2_with fail
              go_ret
              exact ⟨by rw [HV.out]; rfl, rfl⟩
            · by_cases hs4 : 650 < ll.length
              · have s0 : (600 < (q : Int)) = False := eq_false (by omega)
                have s1 : (600 < q) = False := eq_false (by omega)
                have s2 : (20 < ((ll.length : Nat) : Int)) = True := eq_true (by omega)
                have s3 : (20 < ll.length) = True := eq_true (by omega)
                have s4 : (((ll.length : Nat) : Int) ≤ 600) = False := eq_false (by omega)
                have s5 : (ll.length ≤ 600) = False := eq_false (by omega)
                have s6 : (650 < ((ll.length : Nat) : Int)) = True := eq_true (by omega)
                have s7 : (650 < ll.length) = True := eq_true (by omega)
                have HV : Aside0 (great ll = true) := ⟨by unfold great; rw [← HE.out]; simp; omega⟩
                clear hs1 hs2 hs3 hs4
                go_wp2_with fail
                go_ret
                exact ⟨by rw [HV.out]; rfl, rfl⟩
              · have s0 : (600 < (q : Int)) = False := eq_false (by omega)
                have s1 : (600 < q) = False := eq_false (by omega)
                have s2 : (20 < ((ll.length : Nat) : Int)) = True := eq_true (by omega)
                have s3 : (20 < ll.length) = True := eq_true (by omega)
                have s4 : (((ll.length : Nat) : Int) ≤ 600) = False := eq_false (by omega)
                have s5 : (ll.length ≤ 600) = False := eq_false (by omega)
                have s6 : (650 < ((ll.length : Nat) : Int)) = False := eq_false (by omega)
                have s7 : (650 < ll.length) = False := eq_false (by omega)
                have HV : Aside0 (great ll = false) := ⟨by unfold great; rw [← HE.out]; simp; omega⟩
                clear hs1 hs2 hs3 hs4
                go_wp2_with fail
                go_ret
                exact ⟨by rw [HV.out]; rfl, rfl⟩
          · have hs3 := True.intro
            have s0 : (600 < (q : Int)) = False := eq_false (by omega)
            have s1 : (600 < q) = False := eq_false (by omega)
            have s2 : (20 < ((ll.length : Nat) : Int)) = False := eq_false (by omega)
            have s3 : (20 < ll.length) = False := eq_false (by omega)
            have s4 : (650 < ((ll.length : Nat) : Int)) = False := eq_false (by omega)
            have s5 : (650 < ll.length) = False := eq_false (by omega)
            have HV : Aside0 (great ll = false) := ⟨by unfold great; rw [← HE.out]; simp; omega⟩
            clear hs1 hs2 hs3
            go_wp2_with fail
            go_ret
            exact ⟨by rw [HV.out]; rfl, rfl⟩
      · have HZ := Aside0.mk hz
        have c0 : ((i : Int) < ((ll.length : Nat) : Int)) = True := eq_true (by have := HD.out; omega)
        have c1 : (i < ll.length) = True := eq_true (by have := HD.out; omega)
        have c2 : ((i : Int) ≤ 600) = False := eq_false (by have := HD.out; omega)
        have c3 : (i ≤ 600) = False := eq_false (by have := HD.out; omega)
        clear hz
        by_cases hs1 : 600 < q
        · have hs2 := True.intro; have hs3 := True.intro
          have s0 : (600 < (q : Int)) = True := eq_true (by omega)
          have s1 : (600 < q) = True := eq_true (by omega)
          have HV : Aside0 (great ll = true) := ⟨by unfold great; rw [← HE.out]; simp; omega⟩
          clear hs1 hs2 hs3
          go_wp2_with fail
          go_ret
          exact ⟨by rw [HV.out]; rfl, rfl⟩
        · by_cases hs2 : 20 < ll.length
          · by_cases hs3 : ll.length ≤ 600
            · have s0 : (600 < (q : Int)) = False := eq_false (by omega)
              have s1 : (600 < q) = False := eq_false (by omega)
              have s2 : (20 < ((ll.length : Nat) : Int)) = True := eq_true (by omega)
              have s3 : (20 < ll.length) = True := eq_true (by omega)
              have s4 : (((ll.length : Nat) : Int) ≤ 600) = True := eq_true (by omega)
              have s5 : (ll.length ≤ 600) = True := eq_true (by omega)
              have HV : Aside0 (great ll = true) := ⟨by unfold great; rw [← HE.out]; simp; omega⟩
              clear hs1 hs2 hs3
              go_wp2_with fail
              go_ret
              exact ⟨by rw [HV.out]; rfl, rfl⟩
            · by_cases hs4 : 650 < ll.length
              · have s0 : (600 < (q : Int)) = False := eq_false (by omega)
                have s1 : (600 < q) = False := eq_false (by omega)
                have s2 : (20 < ((ll.length : Nat) : Int)) = True := eq_true (by omega)
                have s3 : (20 < ll.length) = True := eq_true (by omega)
                have s4 : (((ll.length : Nat) : Int) ≤ 600) = False := eq_false (by omega)
                have s5 : (ll.length ≤ 600) = False := eq_false (by omega)
                have s6 : (650 < ((ll.length : Nat) : Int)) = True := eq_true (by omega)
                have s7 : (650 < ll.length) = True := eq_true (by omega)
                have HV : Aside0 (great ll = true) := ⟨by unfold great; rw [← HE.out]; simp; omega⟩
                clear hs1 hs2 hs3 hs4
                go_wp2_with fail
                go_ret
                exact ⟨by rw [HV.out]; rfl, rfl⟩
              · have s0 : (600 < (q : Int)) = False := eq_false (by omega)
                have s1 : (600 < q) = False := eq_false (by omega)
                have s2 : (20 < ((ll.length : Nat) : Int)) = True := eq_true (by omega)
                have s3 : (20 < ll.length) = True := eq_true (by omega)
                have s4 : (((ll.length : Nat) : Int) ≤ 600) = False := eq_false (by omega)
                have s5 : (ll.length ≤ 600) = False := eq_false (by omega)
                have s6 : (650 < ((ll.length : Nat) : Int)) = False := eq_false (by omega)
                have s7 : (650 < ll.length) = False := eq_false (by omega)
                have HV : Aside0 (great ll = false) := ⟨by unfold great; rw [← HE.out]; simp; omega⟩
                clear hs1 hs2 hs3 hs4
                go_wp2_with fail
                go_ret
                exact ⟨by rw [HV.out]; rfl, rfl⟩
          · have hs3 := True.intro
            have s0 : (600 < (q : Int)) = False := eq_false (by omega)
            have s1 : (600 < q) = False := eq_false (by omega)
            have s2 : (20 < ((ll.length : Nat) : Int)) = False := eq_false (by omega)
            have s3 : (20 < ll.length) = False := eq_false (by omega)
            have s4 : (650 < ((ll.length : Nat) : Int)) = False := eq_false (by omega)
            have s5 : (650 < ll.length) = False := eq_false (by omega)
            have HV : Aside0 (great ll = false) := ⟨by unfold great; rw [← HE.out]; simp; omega⟩
            clear hs1 hs2 hs3
            go_wp2_with fail
            go_ret
            exact ⟨by rw [HV.out]; rfl, rfl⟩
set_option maxHeartbeats 1600000 in
set_option maxRecDepth 100000 in
theorem fit_few (A : Option Addr) (c : Nat) (ll : List (List Int)) (w : World) (hr : Kd.C (Kd.slice 5 (Kd.int .u8)) w A ll.length ll) (hl : ll.length ≤ c) (h20 : ll.length ≤ 20) : Calls Tryd.prog 34 #[.slice A ll.length c] w fun e w' => e = .returned (.bool (!great ll)) ∧ w' = w := by
  have Hhr := Aside0.mk hr
  have Hhl := Aside0.mk hl
  have s0 : (((ll.length : Nat) : Int) ≤ 20) = True := eq_true (by omega)
  have s1 : (ll.length ≤ 20) = True := eq_true (by omega)
  clear hr hl h20
  go_enter Tryd.func34, Tryd.ntmps34
  go_wp2_with fail
  refine (great_calls A c ll _ Hhr.out Hhl.out).mono ?_
  rintro e w' ⟨rfl, rfl⟩
  go_wp2_with fail
  go_ret
  exact ⟨rfl, rfl⟩
set_option maxHeartbeats 1600000 in
set_option maxRecDepth 100000 in
theorem fit_many (A : Option Addr) (c : Nat) (ll : List (List Int)) (w : World) (hr : Kd.C (Kd.slice 5 (Kd.int .u8)) w A ll.length ll) (hl : ll.length ≤ c) (h20 : ¬ ll.length ≤ 20) : Calls Tryd.prog 34 #[.slice A ll.length c] w fun e w' => e = .returned (.bool false) ∧ w' = w := by
  have Hhr := Aside0.mk hr
  have Hhl := Aside0.mk hl
  have s0 : (((ll.length : Nat) : Int) ≤ 20) = False := eq_false (by omega)
  have s1 : (ll.length ≤ 20) = False := eq_false (by omega)
  clear hr hl h20
  go_enter Tryd.func34, Tryd.ntmps34
  go_wp2_with fail
  go_ret
  exact ⟨rfl, rfl⟩
set_option maxHeartbeats 1600000 in
set_option maxRecDepth 100000 in
theorem same_sums (A B : Option Addr) (c c2 : Nat) (l : List Dg) (w : World) (h1 : Kd.C kdg w A l.length l) (h2 : Kd.C kdg w B l.length l) (hl : l.length ≤ 1000000) : Calls Tryd.prog 41 #[.slice A l.length c, .slice B l.length c2] w fun e w' => e = .returned (.bool true) ∧ Below w.heap.size w w' := by
  have Hh1 := Aside0.mk h1
  have Hh2 := Aside0.mk h2
  have Hhl := Aside0.mk hl
  clear h1 h2 hl
  go_enter Tryd.func41, Tryd.ntmps41
  go_wp2_with fail
  go_loopg [5] l.length (fun m v5 w1 => ∃ (i : Nat), v5 = .int .i64 (i : Int) ∧ Aside0 (i + m = l.length) ∧ Aside0 (Below w.heap.size w w1))
  case atStart => exact ⟨0, rfl, ⟨by omega⟩, ⟨Below.refl _ _⟩⟩
  case round =>
    obtain ⟨i, rfl, HK, BB⟩ := hrel
    by_cases hk : i < l.length
    · obtain ⟨go, rfl⟩ : ∃ j, gk = j + 1 := ⟨gk - 1, by have := HK.out; omega⟩
      have hi1 : ((i : Int) < ((l.length : Nat) : Int)) = True := eq_true (by omega)
      have hi2 : (i < l.length) = True := eq_true hk
      have hi3 : (0 ≤ (i : Int)) = True := eq_true (by omega)
      have u1 : wrap64 ((i : Int) + 1) = ((i + 1 : Nat) : Int) := by have := Hhl.out; unfold wrap64; omega
      obtain ⟨i2, hi2'⟩ : ∃ x : Nat, x = i + 1 := ⟨_, rfl⟩
      rw [← hi2'] at u1
      have HI2 := Aside0.mk hi2'
      obtain ⟨ad, rfl, hx_⟩ : ∃ ad, A = some ad ∧ True := by obtain ⟨ad, e, _⟩ := Hh1.out.2.2 (by omega); exact ⟨ad, e, trivial⟩
      clear hx_
      obtain ⟨bd, rfl, hx_⟩ : ∃ ad, B = some ad ∧ True := by obtain ⟨ad, e, _⟩ := Hh2.out.2.2 (by omega); exact ⟨ad, e, trivial⟩
      have L1 := Aside0.mk (fun (W : World) (hB : Below w.heap.size w W) => dg_load (Kd.C_below Hh1.out hB) hk)
      have L2 := Aside0.mk (fun (W : World) (hB : Below w.heap.size w W) => dg_load (Kd.C_below Hh2.out hB) hk)
      obtain ⟨p, hp⟩ : ∃ p : Dg, p = l.getD i zdg := ⟨_, rfl⟩
      rw [← hp] at L1 L2
      have hqp := fun (k : Nat) (W : World) => eqA23 k W (p 0) (p 0) (p 1) (p 1) (p 2) (p 2) (p 3) (p 3) (p 4) (p 4) (p 5) (p 5) (p 6) (p 6) (p 7) (p 7) (p 8) (p 8) (p 9) (p 9) (p 10) (p 10) (p 11) (p 11) (p 12) (p 12) (p 13) (p 13) (p 14) (p 14) (p 15) (p 15) (p 16) (p 16) (p 17) (p 17) (p 18) (p 18) (p 19) (p 19)
      simp only [beq_self_eq_true, Bool.and_self] at hqp
      clear hx_ hk hi2' hp
      go_wp2_with fail
      have B102 := Aside0.mk (below_drew BB.out)
      clear BB
      refine start_ (n := 9) (S := fun w' => (loadVar 23 (ad.add (i * 20))).run Tryd.prog w' = .ok (.agg #[.int .u8 (p 0), .int .u8 (p 1), .int .u8 (p 2), .int .u8 (p 3), .int .u8 (p 4), .int .u8 (p 5), .int .u8 (p 6), .int .u8 (p 7), .int .u8 (p 8), .int .u8 (p 9), .int .u8 (p 10), .int .u8 (p 11), .int .u8 (p 12), .int .u8 (p 13), .int .u8 (p 14), .int .u8 (p 15), .int .u8 (p 16), .int .u8 (p 17), .int .u8 (p 18), .int .u8 (p 19)]) w' ∧ (loadVar 23 (bd.add (i * 20))).run Tryd.prog w' = .ok (.agg #[.int .u8 (p 0), .int .u8 (p 1), .int .u8 (p 2), .int .u8 (p 3), .int .u8 (p 4), .int .u8 (p 5), .int .u8 (p 6), .int .u8 (p 7), .int .u8 (p 8), .int .u8 (p 9), .int .u8 (p 10), .int .u8 (p 11), .int .u8 (p 12), .int .u8 (p 13), .int .u8 (p 14), .int .u8 (p 15), .int .u8 (p 16), .int .u8 (p 17), .int .u8 (p 18), .int .u8 (p 19)]) w') (ds := []) #[false, false, false, false, false, false, false, false, false] (by kernel_rfl) rfl rfl ⟨(L1.out _ B102.out), (L2.out _ B102.out)⟩ (fun hHeld => ?_)
      generalize World.drew wr = w101 at B102 hHeld ⊢
      refine pure_ (i := 0) (N := some 17) (v := ?_) (a' := ?_) #[true, false, false, false, false, false, false, false, false] rfl rfl (by kernel_rfl) (fun _ _ _ h => h) (Or.inl ⟨by rfl, ?_⟩) ?_ ?_
      rotate_left
      · intro w'
        go_simp
        with_reducible rfl
      rotate_left
      · simp only [Act.put, List.setIfInBounds_toArray, List.set_cons_zero, List.set_cons_succ, i64_w, i32_w]
        rfl
      refine pure_ (i := 1) (N := some 18) (v := ?_) (a' := ?_) #[true, true, false, false, false, false, false, false, false] rfl rfl (by kernel_rfl) (fun _ _ _ h => h) (Or.inl ⟨by rfl, ?_⟩) ?_ ?_
      rotate_left
      · intro w'
        go_simp
        with_reducible rfl
      rotate_left
      · simp only [Act.put, List.setIfInBounds_toArray, List.set_cons_zero, List.set_cons_succ, i64_w, i32_w]
        rfl
      refine pure_ (i := 2) (N := some 19) (v := ?_) (a' := ?_) #[true, true, true, false, false, false, false, false, false] rfl rfl (by kernel_rfl) (fun _ _ _ h => h) (Or.inl ⟨by rfl, ?_⟩) ?_ ?_
      rotate_left
      · intro w'
        go_simp
        with_reducible rfl
      rotate_left
      · simp only [Act.put, List.setIfInBounds_toArray, List.set_cons_zero, List.set_cons_succ, i64_w, i32_w]
        rfl
      refine pure_ (i := 4) (N := some 21) (v := ?_) (a' := ?_) #[true, true, true, false, true, false, false, false, false] rfl rfl (by kernel_rfl) (fun _ _ _ h => h) (Or.inl ⟨by rfl, ?_⟩) ?_ ?_
      rotate_left
      · intro w'
        go_simp
        with_reducible rfl
      rotate_left
      · simp only [Act.put, List.setIfInBounds_toArray, List.set_cons_zero, List.set_cons_succ, i64_w, i32_w]
        rfl
      refine pure_ (i := 5) (N := some 22) (v := ?_) (a' := ?_) #[true, true, true, false, true, true, false, false, false] rfl rfl (by kernel_rfl) (fun _ _ _ h => h) (Or.inl ⟨by rfl, ?_⟩) ?_ ?_
      rotate_left
      · intro w'
        go_simp
        with_reducible rfl
      rotate_left
      · simp only [Act.put, List.setIfInBounds_toArray, List.set_cons_zero, List.set_cons_succ, i64_w, i32_w]
        rfl
      refine pure_ (i := 6) (N := some 23) (v := ?_) (a' := ?_) #[true, true, true, false, true, true, true, false, false] rfl rfl (by kernel_rfl) (fun _ _ _ h => h) (Or.inl ⟨by rfl, ?_⟩) ?_ ?_
      rotate_left
      · intro w'
        go_simp
        with_reducible rfl
      rotate_left
      · simp only [Act.put, List.setIfInBounds_toArray, List.set_cons_zero, List.set_cons_succ, i64_w, i32_w]
        rfl
      refine take_ (i := 3) (N := some 20) (v := ?_) (a' := ?_) #[true, true, true, true, true, true, true, false, false] rfl rfl (by kernel_rfl) (fun _ _ _ h => h) (Or.inl ⟨by rfl, ?_⟩) hHeld ?_ ?_
      rotate_left
      · rintro w' ⟨s0, s1⟩
        refine (loadA_run (T := 23) rfl rfl s0).trans ?_
        with_reducible rfl
      rotate_left
      · simp only [Act.put, List.setIfInBounds_toArray, List.set_cons_zero, List.set_cons_succ, i64_w, i32_w]
        rfl
      refine take_ (i := 7) (N := some 24) (v := ?_) (a' := ?_) #[true, true, true, true, true, true, true, true, false] rfl rfl (by kernel_rfl) (fun _ _ _ h => h) (Or.inl ⟨by rfl, ?_⟩) hHeld ?_ ?_
      rotate_left
      · rintro w' ⟨s0, s1⟩
        refine (loadA_run (T := 23) rfl rfl s1).trans ?_
        with_reducible rfl
      rotate_left
      · simp only [Act.put, List.setIfInBounds_toArray, List.set_cons_zero, List.set_cons_succ, i64_w, i32_w]
        rfl
      refine pure_ (i := 8) (N := some 25) (v := ?_) (a' := ?_) #[true, true, true, true, true, true, true, true, true] rfl rfl (by kernel_rfl) (fun _ _ _ h => h) (Or.inl ⟨by rfl, ?_⟩) ?_ ?_
      rotate_left
      · intro w'
        go_simp
        with_reducible rfl
      rotate_left
      · simp only [Act.put, List.setIfInBounds_toArray, List.set_cons_zero, List.set_cons_succ, i64_w, i32_w]
        rfl
      refine done_ (by kernel_rfl) ?_
      go_wp2_with fail
      go_roundg go
      case measure => have := HK.out; omega
      case rel => exact ⟨i2, (by first | rfl | rw [u1]), ⟨by have := HK.out; have := HI2.out; omega⟩, ⟨B102.out⟩⟩
    · have hi1 : ((i : Int) < ((l.length : Nat) : Int)) = False := eq_false (by omega)
      have hi2 : (i < l.length) = False := eq_false hk
      clear hk
      go_wp2_with fail
      go_ret
      exact ⟨rfl, BB.out⟩
end Go.Proofs.YtbldecdipicddaaDoor.Hand
