/- ShaSums answers true, for every list of byte strings. Written by wip/s1/mklsums.py. -/
import Derived.Test.YtbldecdipicddaaDoorHShaSums
import Derived.Test.YtbldecdipicddaaDoorQRx1
set_option linter.unusedSimpArgs false
set_option linter.unusedVariables false
namespace Go.Proofs.YtbldecdipicddaaDoor.Hand
open Go Go.RowKit Go.Proofs.YtbldecdipicddaaDoorW.PrintWords Go.Proofs.YtbldecdipicddaaDoorW.PrintMore Go.Proofs.YtbldecdipicddaaDoor.QP Go.Proofs.YtbldecdipicddaaDoor.QR
theorem long_from (ll : List (List Int)) (hn : ll.length ≤ 9223372036854775807) : ∀ (d i : Nat), i + d = ll.length → ∃ k b, bitloftref01_Long.l0 k ll (i : Int) = some b ∧ (b = false → ll.length ≤ 30 ∧ ∀ j, i ≤ j → j < ll.length → (ll.getD j []).length ≤ 40000)
  | 0, i, h => ⟨2, decide ((ll.length : Int) > 30), by rw [bitloftref01_Long.l0, if_neg (by omega), bitloftref01_Long.j1, if_neg (by decide)], fun h => ⟨by have := of_decide_eq_false h; omega, fun j h1 h2 => by omega⟩⟩
  | d + 1, i, h => by
    by_cases h30 : (i : Int) ≤ 30
    · have hrd : rd_L1 ll (i : Int) = ll.getD i [] := rfl
      obtain ⟨k, b, hk, hb⟩ := long_from ll hn d (i + 1) (by omega)
      by_cases h4 : ((ll.getD i []).length : Int) > 40000
      · refine ⟨2, true, ?_, fun h => by cases h⟩
        rw [bitloftref01_Long.l0, if_pos (by omega), bitloftref01_Long.j1, if_pos (by simpa using h30), if_pos (by omega), if_pos (by omega), hrd, if_pos (by omega), if_neg (by omega), if_pos h4]
      by_cases h2 : ((ll.getD i []).length : Int) > 700 ∧ ((ll.getD i []).length : Int) ≤ 20000
      · refine ⟨2, true, ?_, fun h => by cases h⟩
        rw [bitloftref01_Long.l0, if_pos (by omega), bitloftref01_Long.j1, if_pos (by simpa using h30), if_pos (by omega), if_pos (by omega), hrd, if_pos h2.1, if_pos h2.2]
      · refine ⟨k + 2, b, ?_, fun h => ⟨(hb h).1, fun j h1 h2 => ?_⟩⟩
        · rw [bitloftref01_Long.l0, if_pos (by omega), bitloftref01_Long.j1, if_pos (by simpa using h30), if_pos (by omega), if_pos (by omega), hrd, show wrap64 ((i : Int) + 1) = ((i + 1 : Nat) : Int) by (unfold wrap64; omega), if_neg h4, hk]
          by_cases h7 : ((ll.getD i []).length : Int) > 700
          · rw [if_pos h7, if_neg (by omega)]
          · rw [if_neg h7]
        · rcases Nat.lt_or_ge i j with h3 | h3
          · exact (hb h).2 j (by omega) h2
          · obtain rfl : j = i := by omega
            omega
    · refine ⟨2, true, ?_, fun h => by cases h⟩
      rw [bitloftref01_Long.l0, if_pos (by omega), bitloftref01_Long.j1, if_neg (by simpa using h30), decide_eq_true (by omega)]
theorem long_eq (ll : List (List Int)) (hn : ll.length ≤ 9223372036854775807) : ∃ k b, bitloftref01_Long.f k ll = some b ∧ (b = false → ll.length ≤ 30 ∧ ∀ j, j < ll.length → (ll.getD j []).length ≤ 40000) := by
  obtain ⟨k, b, h1, h2⟩ := long_from ll hn ll.length 0 (by omega)
  exact ⟨k, b, h1, fun h => ⟨(h2 h).1, fun j hj => (h2 h).2 j (Nat.zero_le _) hj⟩⟩
theorem tot_le (ll : List (List Int)) (K : Nat) (h : ∀ j, j < ll.length → (ll.getD j []).length ≤ K) : ∀ i, i ≤ ll.length → tot ll i ≤ i * K
  | 0, _ => by rw [tot]; omega
  | i + 1, hi => by
    rw [tot, Nat.succ_mul]
    have := tot_le ll K h i (by omega)
    have := h i (by omega)
    omega
theorem cat_range (ll : List (List Int)) (h : ∀ j, j < ll.length → ∀ z ∈ ll.getD j [], 0 ≤ z ∧ z < 256) : ∀ i, i ≤ ll.length → ∀ z ∈ cat ll i, 0 ≤ z ∧ z < 256
  | 0, _ => by intro z hz; rw [cat] at hz; cases hz
  | i + 1, hi => by
    intro z hz
    rw [cat] at hz
    rcases List.mem_append.1 hz with hz | hz
    · exact cat_range ll h i (by omega) z hz
    · exact h i (by omega) z hz
theorem same_from2 (xs : List Int) (hx : xs.length ≤ 9223372036854775807) : ∀ (d i : Nat) (k : Nat), i + d = xs.length → d < k → bitloftref01_Same.l0 k xs xs (i : Int) = some true := by
  intro d
  induction d with
  | zero =>
    intro i k hi hk
    obtain ⟨k, rfl⟩ : ∃ m, k = m + 1 := ⟨k - 1, by omega⟩
    rw [bitloftref01_Same.l0, if_neg (by omega)]
  | succ d ih =>
    intro i k hi hk
    obtain ⟨k, rfl⟩ : ∃ m, k = m + 1 := ⟨k - 1, by omega⟩
    rw [bitloftref01_Same.l0, if_pos (by omega), if_pos (by omega), if_pos (by omega), if_pos rfl, show wrap64 ((i : Int) + 1) = ((i + 1 : Nat) : Int) by unfold wrap64; omega]
    exact ih (i + 1) k (by omega) (by omega)
theorem same_c (xs : List Int) (W : World) (A1 A2 : Option Addr) (c1 c2 : Nat) (r1 : Kd.C (Kd.int .u8) W A1 xs.length xs) (q1 : xs.length ≤ c1) (r2 : Kd.C (Kd.int .u8) W A2 xs.length xs) (q2 : xs.length ≤ c2) :
    Calls Tryd.prog 32 #[.slice A1 xs.length c1, .slice A2 xs.length c2] W fun e w' => e = .returned (.bool true) ∧ Below W.heap.size W w' := by
  have e : bitloftref01_Same.f (xs.length + 1) xs xs = some true := by
    unfold bitloftref01_Same.f
    rw [if_pos rfl]
    exact same_from2 xs r1.2.1 xs.length 0 _ (by omega) (by omega)
  exact (bitloftref01_Same.calls (xs.length + 1) A1 c1 xs A2 c2 xs true W r1 q1 r2 q2 e).mono (fun e w' h => (⟨h.1, by obtain ⟨m, hm⟩ := h.2; rw [hm]; exact pw_below_drewN (Below.refl _ _) m⟩ : e = .returned (.bool true) ∧ Below W.heap.size W w'))
theorem lst20 (l : List Int) (h : l.length = 20) : ∃ s0 s1 s2 s3 s4 s5 s6 s7 s8 s9 s10 s11 s12 s13 s14 s15 s16 s17 s18 s19, l = [s0, s1, s2, s3, s4, s5, s6, s7, s8, s9, s10, s11, s12, s13, s14, s15, s16, s17, s18, s19] := by
  match l, h with
  | [s0, s1, s2, s3, s4, s5, s6, s7, s8, s9, s10, s11, s12, s13, s14, s15, s16, s17, s18, s19], _ => exact ⟨_, _, _, _, _, _, _, _, _, _, _, _, _, _, _, _, _, _, _, _, rfl⟩
/-- Both digests of a string of bytes are alike. -/
theorem both (x : List Int) (hb : ∀ z ∈ x, 0 ≤ z ∧ z < 256) : ∃ d0 d1 d2 d3 d4 d5 d6 d7 d8 d9 d10 d11 d12 d13 d14 d15 d16 d17 d18 d19 en : Int, ∀ (W : World) (Ai : Option Addr) (ci : Nat), TabQ W → Kd.C (Kd.int .u8) W Ai x.length x → x.length ≤ ci →
    (Calls Tryd.prog 44 #[.slice Ai x.length ci] W fun e w' => e = .returned (.tuple #[.agg #[.int .u8 d0, .int .u8 d1, .int .u8 d2, .int .u8 d3, .int .u8 d4, .int .u8 d5, .int .u8 d6, .int .u8 d7, .int .u8 d8, .int .u8 d9, .int .u8 d10, .int .u8 d11, .int .u8 d12, .int .u8 d13, .int .u8 d14, .int .u8 d15, .int .u8 d16, .int .u8 d17, .int .u8 d18, .int .u8 d19], .int .i64 en]) ∧ Below W.heap.size W w') ∧ (Calls Tryd.prog 45 #[.slice Ai x.length ci] W fun e w' => e = .returned (.tuple #[.agg #[.int .u8 d0, .int .u8 d1, .int .u8 d2, .int .u8 d3, .int .u8 d4, .int .u8 d5, .int .u8 d6, .int .u8 d7, .int .u8 d8, .int .u8 d9, .int .u8 d10, .int .u8 d11, .int .u8 d12, .int .u8 d13, .int .u8 d14, .int .u8 d15, .int .u8 d16, .int .u8 d17, .int .u8 d18, .int .u8 d19], .int .i64 en]) ∧ Below W.heap.size W w') := by
  by_cases h : 20000 < x.length
  · exact ⟨0, 0, 0, 0, 0, 0, 0, 0, 0, 0, 0, 0, 0, 0, 0, 0, 0, 0, 0, 0, 4, fun W Ai ci _ _ _ => ⟨sum_many Ai ci x W h, rsum_many Ai ci x W h⟩⟩
  · obtain ⟨d0, d1, d2, d3, d4, d5, d6, d7, d8, d9, d10, d11, d12, d13, d14, d15, d16, d17, d18, d19, hd⟩ := lst20 (dig (fin5 x)) rfl
    refine ⟨d0, d1, d2, d3, d4, d5, d6, d7, d8, d9, d10, d11, d12, d13, d14, d15, d16, d17, d18, d19, 0, fun W Ai ci hT hr hc => ⟨?_, ?_⟩⟩
    · have := sum_c Ai ci x W hT hr hc (by omega)
      rw [hd] at this
      exact this
    · refine rsum_ok d0 d1 d2 d3 d4 d5 d6 d7 d8 d9 d10 d11 d12 d13 d14 d15 d16 d17 d18 d19 Ai ci x W h fun W' hB => ?_
      have := of_c Ai ci x W' (Kd.C_below hr hB) (by omega) hb
      rw [hd] at this
      exact this
theorem whole_c (A : Option Addr) (c : Nat) (ll : List (List Int)) (w : World) (hr : Kd.C (Kd.slice 5 (Kd.int .u8)) w A ll.length ll) (hb : tot ll ll.length ≤ 1000000000) (W : World) (hB : Below w.heap.size w W) :
    Calls Tryd.prog 43 #[.slice A ll.length c] W fun e w' => ∃ v0_ : Value, e = .returned v0_ ∧ Kd.R (Kd.int .u8) 5 w' W.heap.size (fun _ => True) v0_ (cat ll ll.length) ∧ Below W.heap.size W w' := whole_calls A c ll W (Kd.C_below hr hB) hb
/-- Both digests of a list of strings are alike. -/
theorem both_pieces (A : Option Addr) (c : Nat) (ll : List (List Int)) (w : World) (hr : Kd.C (Kd.slice 5 (Kd.int .u8)) w A ll.length ll) (hb : tot ll ll.length ≤ 1000000000) (hz : ∀ z ∈ cat ll ll.length, 0 ≤ z ∧ z < 256) : ∃ d0 d1 d2 d3 d4 d5 d6 d7 d8 d9 d10 d11 d12 d13 d14 d15 d16 d17 d18 d19 en : Int, ∀ W : World, TabQ W → Below w.heap.size w W →
    (Calls Tryd.prog 46 #[.slice A ll.length c] W fun e w' => e = .returned (.tuple #[.agg #[.int .u8 d0, .int .u8 d1, .int .u8 d2, .int .u8 d3, .int .u8 d4, .int .u8 d5, .int .u8 d6, .int .u8 d7, .int .u8 d8, .int .u8 d9, .int .u8 d10, .int .u8 d11, .int .u8 d12, .int .u8 d13, .int .u8 d14, .int .u8 d15, .int .u8 d16, .int .u8 d17, .int .u8 d18, .int .u8 d19], .int .i64 en]) ∧ Below W.heap.size W w') ∧ (Calls Tryd.prog 47 #[.slice A ll.length c] W fun e w' => e = .returned (.tuple #[.agg #[.int .u8 d0, .int .u8 d1, .int .u8 d2, .int .u8 d3, .int .u8 d4, .int .u8 d5, .int .u8 d6, .int .u8 d7, .int .u8 d8, .int .u8 d9, .int .u8 d10, .int .u8 d11, .int .u8 d12, .int .u8 d13, .int .u8 d14, .int .u8 d15, .int .u8 d16, .int .u8 d17, .int .u8 d18, .int .u8 d19], .int .i64 en]) ∧ Below W.heap.size W w') := by
  by_cases h : 20 < ll.length
  · exact ⟨0, 0, 0, 0, 0, 0, 0, 0, 0, 0, 0, 0, 0, 0, 0, 0, 0, 0, 0, 0, 4, fun W _ _ => ⟨pieces_many A c ll W h, rpieces_many A c ll W h⟩⟩
  · obtain ⟨d0, d1, d2, d3, d4, d5, d6, d7, d8, d9, d10, d11, d12, d13, d14, d15, d16, d17, d18, d19, en, hs⟩ := both (cat ll ll.length) hz
    refine ⟨d0, d1, d2, d3, d4, d5, d6, d7, d8, d9, d10, d11, d12, d13, d14, d15, d16, d17, d18, d19, en, fun W hT hB => ⟨?_, ?_⟩⟩
    · exact pieces_ok d0 d1 d2 d3 d4 d5 d6 d7 d8 d9 d10 d11 d12 d13 d14 d15 d16 d17 d18 d19 en A c ll (cat ll ll.length) W hT h (fun W' hB' => concat_calls A c ll W' (Kd.C_below (Kd.C_below hr hB) hB') hb (fun W n hn => grow_calls W n hn)) (fun W' a k hT hr hc => (hs W' a k hT hr hc).1)
    · exact rpieces_ok d0 d1 d2 d3 d4 d5 d6 d7 d8 d9 d10 d11 d12 d13 d14 d15 d16 d17 d18 d19 en A c ll (cat ll ll.length) W hT h (fun W' hB' => whole_calls A c ll W' (Kd.C_below (Kd.C_below hr hB) hB') hb) (fun W' a k hT hr hc => (hs W' a k hT hr hc).2)
theorem sums (A : Option Addr) (c : Nat) (ll : List (List Int)) (w : World) (hT : TabQ w) (hr : Kd.C (Kd.slice 5 (Kd.int .u8)) w A ll.length ll) (hc : ll.length ≤ c) (hb : ∀ j, j < ll.length → ∀ z ∈ ll.getD j [], 0 ≤ z ∧ z < 256) :
    Calls Tryd.prog 8 #[.slice A ll.length c] w fun e w' => e = .returned (.bool true) ∧ Below w.heap.size w w' := by
  obtain ⟨k, b, hk, hl⟩ := long_eq ll hr.2.1
  have hlong : ∀ W : World, Below w.heap.size w W → Calls Tryd.prog 42 #[.slice A ll.length c] W fun e w' => e = .returned (.bool b) ∧ Below W.heap.size W w' := fun W hB =>
    (bitloftref01_Long.calls k A c ll b W (Kd.C_below hr hB) hc hk).mono (fun e w' h => (⟨h.1, by obtain ⟨m, hm⟩ := h.2; rw [hm]; exact pw_below_drewN (Below.refl _ _) m⟩ : e = .returned (.bool b) ∧ Below W.heap.size W w'))
  cases b with
  | true => exact sums_long A c ll w hlong
  | false =>
    obtain ⟨h30, h4⟩ := hl rfl
    have ht : tot ll ll.length ≤ 1000000000 := by
      have := tot_le ll 40000 h4 ll.length (Nat.le_refl _)
      have : ll.length * 40000 ≤ 30 * 40000 := Nat.mul_le_mul_right _ h30
      omega
    obtain ⟨e0, e1, e2, e3, e4, e5, e6, e7, e8, e9, e10, e11, e12, e13, e14, e15, e16, e17, e18, e19, ee, hp⟩ := both_pieces A c ll w hr ht (cat_range ll hb _ (Nat.le_refl _))
    exact sums_walk A c ll w (cat ll ll.length) e0 e1 e2 e3 e4 e5 e6 e7 e8 e9 e10 e11 e12 e13 e14 e15 e16 e17 e18 e19 ee hT hr hc hlong (whole_c A c ll w hr ht) (fun i hi => both (ll.getD i []) (hb i hi)) (fun W hT hB => (hp W hT hB).1) (fun W hT hB => (hp W hT hB).2) (fun W A1 A2 c1 c2 r1 q1 r2 q2 => same_c _ W A1 A2 c1 c2 r1 q1 r2 q2)
end Go.Proofs.YtbldecdipicddaaDoor.Hand
