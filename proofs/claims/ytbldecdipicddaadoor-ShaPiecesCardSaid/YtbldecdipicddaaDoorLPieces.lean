/- ShaPieces answers true, for every list of byte strings and every index. -/
import Derived.Test.YtbldecdipicddaaDoorHPieces
set_option linter.unusedSimpArgs false
set_option linter.unusedVariables false
namespace Go.Proofs.YtbldecdipicddaaDoor.Hand
open Go Go.RowKit Go.Proofs.YtbldecdipicddaaDoorW.PrintWords Go.Proofs.YtbldecdipicddaaDoorW.PrintMore Go.Proofs.YtbldecdipicddaaDoor.QP Go.Proofs.YtbldecdipicddaaDoor.QR
theorem pieces (A : Option Addr) (c : Nat) (ll : List (List Int)) (x1 : Int) (w : World) (hT : TabQ w) (hr : Kd.C (Kd.slice 5 (Kd.int .u8)) w A ll.length ll) (hc : ll.length ≤ c) (hb : ∀ j, j < ll.length → ∀ z ∈ ll.getD j [], 0 ≤ z ∧ z < 256) :
    Calls Tryd.prog 10 #[.slice A ll.length c, .int .i64 x1] w fun e w' => e = .returned (.bool true) ∧ Below w.heap.size w w' := by
  obtain ⟨k, b, hk, hl⟩ := long_eq ll hr.2.1
  have hlong : ∀ W : World, Below w.heap.size w W → Calls Tryd.prog 42 #[.slice A ll.length c] W fun e w' => e = .returned (.bool b) ∧ Below W.heap.size W w' := fun W hB =>
    (bitloftref01_Long.calls k A c ll b W (Kd.C_below hr hB) hc hk).mono (fun e w' h => (⟨h.1, by obtain ⟨m, hm⟩ := h.2; rw [hm]; exact pw_below_drewN (Below.refl _ _) m⟩ : e = .returned (.bool b) ∧ Below W.heap.size W w'))
  have hal : ∀ W : World, TabQ W → Calls Tryd.prog 48 #[] W fun e w' => e = .returned (.bool true) ∧ Below W.heap.size W w' := fun W hT => alive01 W hT
  cases b with
  | true => exact pc_long A c ll x1 w hT hlong hal
  | false =>
    obtain ⟨h30, h4⟩ := hl rfl
    by_cases h20 : 20 < ll.length
    · exact pc_many A c ll x1 w hT hlong hal h20
    have ht : tot ll ll.length ≤ 1000000000 := by
      have := tot_le ll 40000 h4 ll.length (Nat.le_refl _)
      have : ll.length * 40000 ≤ 30 * 40000 := Nat.mul_le_mul_right _ h30
      omega
    have hwh := whole_c A c ll w hr ht
    have hz := cat_range ll hb _ (Nat.le_refl ll.length)
    generalize hall : cat ll ll.length = all at hwh hz
    by_cases h14 : 14000 < all.length
    · exact pc_great A c ll x1 w hT hlong hal all hwh h20 h14
    obtain ⟨d0, d1, d2, d3, d4, d5, d6, d7, d8, d9, d10, d11, d12, d13, d14, d15, d16, d17, d18, d19, hd⟩ := lst20 (dig (fin5 all)) rfl
    have hs : ∀ (W : World) (A1 : Option Addr) (c1 : Nat), TabQ W → Kd.C (Kd.int .u8) W A1 all.length all → all.length ≤ c1 → Calls Tryd.prog 44 #[.slice A1 all.length c1] W fun e w' => e = .returned (.tuple #[.agg #[.int .u8 d0, .int .u8 d1, .int .u8 d2, .int .u8 d3, .int .u8 d4, .int .u8 d5, .int .u8 d6, .int .u8 d7, .int .u8 d8, .int .u8 d9, .int .u8 d10, .int .u8 d11, .int .u8 d12, .int .u8 d13, .int .u8 d14, .int .u8 d15, .int .u8 d16, .int .u8 d17, .int .u8 d18, .int .u8 d19], .int .i64 0]) ∧ Below W.heap.size W w' := by
      intro W A1 c1 hT hr hc
      have := sum_c A1 c1 all W hT hr hc (by omega)
      rw [hd] at this
      exact this
    have hp := fun (W : World) (hT : TabQ W) (hB : Below w.heap.size w W) => pieces_ok d0 d1 d2 d3 d4 d5 d6 d7 d8 d9 d10 d11 d12 d13 d14 d15 d16 d17 d18 d19 0 A c ll all W hT h20 (fun W' hB' => hall ▸ concat_calls A c ll W' (Kd.C_below (Kd.C_below hr hB) hB') ht (fun W n hn => grow_calls W n hn)) (fun W' a k hT hr hc => hs W' a k hT hr hc)
    by_cases h0 : x1 < 0
    · exact pc_neg A c ll x1 w hT hlong hal all hwh h20 h14 d0 d1 d2 d3 d4 d5 d6 d7 d8 d9 d10 d11 d12 d13 d14 d15 d16 d17 d18 d19 hp hs h0
    by_cases h1 : (all.length : Int) < x1
    · exact pc_over A c ll x1 w hT hlong hal all hwh h20 h14 d0 d1 d2 d3 d4 d5 d6 d7 d8 d9 d10 d11 d12 d13 d14 d15 d16 d17 d18 d19 hp hs ⟨h0, h1⟩
    obtain ⟨k, rfl⟩ := Int.eq_ofNat_of_zero_le (Int.not_lt.1 h0)
    have hk : k ≤ all.length := by omega
    refine pc_in A c ll w hT hlong hal all hwh h20 h14 d0 d1 d2 d3 d4 d5 d6 d7 d8 d9 d10 d11 d12 d13 d14 d15 d16 d17 d18 d19 hp hs (fun W g k hT hk hC => ?_) k hk
    refine pieces_ok d0 d1 d2 d3 d4 d5 d6 d7 d8 d9 d10 d11 d12 d13 d14 d15 d16 d17 d18 d19 0 (some ⟨g, 0, none⟩) 2 [all.take k, all.drop k] all W hT (by show ¬ 20 < 2; decide) (fun W' hB' => ?_) (fun W' a k hT hr hc => hs W' a k hT hr hc)
    have hcc := concat_calls (some ⟨g, 0, none⟩) 2 [all.take k, all.drop k] W' (Kd.C_below hC hB') (by show tot [all.take k, all.drop k] 2 ≤ _; rw [tot2, List.length_take, List.length_drop]; omega) (fun W n hn => grow_calls W n hn)
    rw [show cat [all.take k, all.drop k] [all.take k, all.drop k].length = all from (cat2 _ _).trans (List.take_append_drop k all)] at hcc
    exact hcc
end Go.Proofs.YtbldecdipicddaaDoor.Hand
