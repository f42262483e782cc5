/- ShaNames answers true. -/
import Derived.Test.YtbldecdipicddaaDoorHNames01
set_option linter.unusedSimpArgs false
set_option linter.unusedVariables false
namespace Go.Proofs.YtbldecdipicddaaDoor.Hand
open Go Go.RowKit Go.Proofs.YtbldecdipicddaaDoorW.PrintWords Go.Proofs.YtbldecdipicddaaDoorW.PrintMore Go.Proofs.YtbldecdipicddaaDoor.QP
set_option maxRecDepth 100000
theorem dig_two : dig (fin5 [97, 98, 99, 100, 98, 99, 100, 101, 99, 100, 101, 102, 100, 101, 102, 103, 101, 102, 103, 104, 102, 103, 104, 105, 103, 104, 105, 106, 104, 105, 106, 107, 105, 106, 107, 108, 106, 107, 108, 109, 107, 108, 109, 110, 108, 109, 110, 111, 109, 110, 111, 112, 110, 111, 112, 113]) = [132, 152, 62, 68, 28, 59, 210, 110, 186, 174, 74, 161, 249, 81, 41, 229, 229, 70, 112, 241] := by decide +kernel
theorem pad_ends : (padl 20000).length = 32 ∧ (padl 20000).getD 0 0 = 128 ∧ (padl 20000).getD 29 0 = 2 ∧ (padl 20000).getD 30 0 = 113 ∧ (padl 20000).getD 31 0 = 0 := by decide +kernel
theorem pad_ends0 : (padl 0).length = 64 ∧ (padl 0).getD 0 0 = 128 ∧ (padl 0).getD 63 0 = 0 := by decide +kernel
theorem nil_cat : ∀ n, cat (List.replicate 20 ([] : List Int)) n = []
  | 0 => rfl
  | n + 1 => by
    rw [cat, nil_cat n, List.getD_eq_getElem?_getD, List.getElem?_replicate]
    split <;> rfl
theorem nil_tot : ∀ n, tot (List.replicate 20 ([] : List Int)) n = 0
  | 0 => rfl
  | n + 1 => by
    rw [tot, nil_tot n, List.getD_eq_getElem?_getD, List.getElem?_replicate]
    split <;> rfl
theorem names01 (w : World) (hT : TabQ w) : Calls Tryd.prog 12 #[] w fun e w' => e = .returned (.bool true) ∧ Below w.heap.size w w' := by
  have hsum0 : ∀ (W : World) (A : Option Addr) (c : Nat), TabQ W → Kd.C (Kd.int .u8) W A 0 [] → 0 ≤ c → Calls Tryd.prog 44 #[.slice A 0 c] W fun e w' => e = .returned (.tuple #[.agg (([218, 57, 163, 238, 94, 107, 75, 13, 50, 85, 191, 239, 149, 96, 24, 144, 175, 216, 7, 9] : List Int).map (Value.int .u8)).toArray, .int .i64 0]) ∧ Below W.heap.size W w' := by
    intro W A c hT hr hc
    have := sum_c A c [] W hT hr hc (by decide)
    rw [dig_nil] at this
    exact this
  obtain ⟨d0, d1, d2, d3, d4, d5, d6, d7, d8, d9, d10, d11, d12, d13, d14, d15, d16, d17, d18, d19, hd⟩ := lst20 (dig (fin5 (List.replicate 20000 0))) ((fun F => rfl : ∀ F, (dig F).length = 20) _)
  refine names01_walk d0 d1 d2 d3 d4 d5 d6 d7 d8 d9 d10 d11 d12 d13 d14 d15 d16 d17 d18 d19 218 57 163 238 94 107 75 13 50 85 191 239 149 96 24 144 175 216 7 9 (padl 20000) (padl 0) w hT ?his ?hm ?hs ?h21 ?h20 ?hpm ?h0 ?hp1 ?hp2 (fun W => pad_c 20000 (by decide) (by decide) W) (fun W => pad_c 0 (by decide) (by decide) W) (fun W A c l hT hr hc hne => block_bad 0 0 0 0 0 A c l W hT hr hc hne) (fun W hT => alive01 W hT) pad_ends pad_ends0
  case his =>
    intro W hT
    refine Is.is_walk [97, 98, 99, 100, 98, 99, 100, 101, 99, 100, 101, 102, 100, 101, 102, 103, 101, 102, 103, 104, 102, 103, 104, 105, 103, 104, 105, 106, 104, 105, 106, 107, 105, 106, 107, 108, 106, 107, 108, 109, 107, 108, 109, 110, 108, 109, 110, 111, 109, 110, 111, 112, 110, 111, 112, 113] 132 152 62 68 28 59 210 110 186 174 74 161 249 81 41 229 229 70 112 241 W hT (by decide) (by decide) (fun W A c hT hr hc => ?_)
    have := sum_c A c [97, 98, 99, 100, 98, 99, 100, 101, 99, 100, 101, 102, 100, 101, 102, 103, 101, 102, 103, 104, 102, 103, 104, 105, 103, 104, 105, 106, 104, 105, 106, 107, 105, 106, 107, 108, 106, 107, 108, 109, 107, 108, 109, 110, 108, 109, 110, 111, 109, 110, 111, 112, 110, 111, 112, 113] W hT hr hc (by decide)
    rw [dig_two] at this
    exact this
  case hm =>
    intro W A c
    have := sum_many A c (List.replicate 20001 0) W (by rw [List.length_replicate]; decide)
    rw [List.length_replicate] at this
    exact this
  case hs =>
    intro W A c hT hr hc
    have := sum_c A c (List.replicate 20000 0) W hT (by rw [List.length_replicate]; exact hr) (by rw [List.length_replicate]; exact hc) (by rw [List.length_replicate]; decide)
    rw [hd, List.length_replicate] at this
    exact this
  case h21 =>
    intro W A c
    have := pieces_many A c (List.replicate 21 []) W (by rw [List.length_replicate]; decide)
    rw [List.length_replicate] at this
    exact this
  case h20 =>
    intro W A c hT hr hc
    have := pieces_ok 218 57 163 238 94 107 75 13 50 85 191 239 149 96 24 144 175 216 7 9 0 A c (List.replicate 20 []) [] W hT (by decide) (fun W' hB' => by
      have := concat_calls A c (List.replicate 20 []) W' (Kd.C_below hr hB') (by rw [nil_tot]; decide) (fun W n hn => grow_calls W n hn)
      rw [nil_cat] at this
      exact this) (fun W a k hT hr hc => hsum0 W a k hT hr hc)
    rw [List.length_replicate] at this
    exact this
  case hpm =>
    intro W g hT hC
    exact pieces_ok 0 0 0 0 0 0 0 0 0 0 0 0 0 0 0 0 0 0 0 0 4 (some ⟨g, 0, none⟩) 2 [List.replicate 20000 0, [1]] (List.replicate 20000 0 ++ [1]) W hT (by show ¬ 20 < 2; decide) (fun W' hB' => by
      have := concat_calls (some ⟨g, 0, none⟩) 2 [List.replicate 20000 0, [1]] W' (Kd.C_below hC hB') (by show tot [List.replicate 20000 0, [1]] 2 ≤ _; rw [tot2, List.length_replicate]; decide) (fun W n hn => grow_calls W n hn)
      rw [show cat [List.replicate 20000 (0 : Int), [1]] [List.replicate 20000 (0 : Int), [1]].length = List.replicate 20000 0 ++ [1] from cat2 _ _] at this
      exact this) (fun W a k hT hr hc => sum_many a k _ W (by rw [List.length_append, List.length_replicate]; decide))
  case h0 =>
    intro W hT
    have hC : ∀ W : World, Kd.C (Kd.slice 5 (Kd.int .u8)) W none 0 [] := fun W => ⟨rfl, by decide, fun h => absurd h (by decide)⟩
    exact pieces_ok 218 57 163 238 94 107 75 13 50 85 191 239 149 96 24 144 175 216 7 9 0 none 0 [] [] W hT (by decide) (fun W' hB' => concat_calls none 0 [] W' (hC W') (by decide) (fun W n hn => grow_calls W n hn)) (fun W a k hT hr hc => hsum0 W a k hT hr hc)
  case hp1 => exact fun W => sha_Pad.calls 9 (-1) [] 2 W (by rw [sha_Pad.f, if_pos (by omega)])
  case hp2 => exact fun W => sha_Pad.calls 9 20001 [] 2 W (by rw [sha_Pad.f, if_neg (by omega), if_pos (by omega)])
end Go.Proofs.YtbldecdipicddaaDoor.Hand
