/- TreeHalves answers true. -/
import Derived.Test.YtbldecdipicddaaDoorHHalves
import Derived.Test.YtbldecdipicddaaDoorLAlive41
set_option linter.unusedSimpArgs false
set_option linter.unusedVariables false
namespace Go.Proofs.YtbldecdipicddaaDoor.Hand
open Go Go.RowKit Go.Proofs.YtbldecdipicddaaDoorW.PrintWords Go.Proofs.YtbldecdipicddaaDoor.QZ
theorem Half_calls (n : Nat) (h2 : 2 ≤ n) (hn : n ≤ 600) (W : World) : Calls Tryd.prog 64 #[.int .i64 (n : Int)] W fun e w' => e = .returned (.int .i64 (hf n : Int)) ∧ Below W.heap.size W w' :=
  (bitloftref41_Half.calls 12 (n : Int) (hf n : Int) W (Half_at 12 n (by omega) h2 hn)).mono (fun e w' h => drewn_bel h)
theorem pwr_lens (rt : List Dg → Dg) : ∀ (k : Nat) (l : List Dg) (i : Nat), l.length ≤ 600 → (pwr rt k l i).length ≤ l.length
  | 0, _, _, _ => Nat.zero_le _
  | k + 1, l, i, h => by
    by_cases h1 : l.length ≤ 1
    · rw [pwr_end rt _ l i h1]; exact Nat.zero_le _
    · have hF := hf_all l.length (by omega) (by omega)
      by_cases hi : hf l.length ≤ i
      · rw [pwr_right rt k l i (by omega) hi, List.length_cons]
        have := pwr_lens rt k (l.drop (hf l.length)) (i - hf l.length) (by rw [List.length_drop]; omega)
        rw [List.length_drop] at this
        omega
      · rw [pwr_left rt k l i (by omega) hi, List.length_cons]
        have := pwr_lens rt k (l.take (hf l.length)) i (by rw [List.length_take]; omega)
        rw [List.length_take] at this
        omega
theorem fit_short {ll : List (List Int)} (h : fitb ll = true) (j : Nat) (hj : j < ll.length) : (ll.getD j []).length ≤ 600 := fit_of (fitb_of h).2 (fitb_of h).1 j hj
theorem halves (A : Option Addr) (c : Nat) (ll : List (List Int)) (i : Int) (w : World) (hT : TabQ w) (hr : Kd.C (Kd.slice 5 (Kd.int .u8)) w A ll.length ll) (hlc : ll.length ≤ c) :
    Calls Tryd.prog 19 #[.slice A ll.length c, .int .i64 i] w fun e w' => e = .returned (.bool true) ∧ Below w.heap.size w w' := by
  have hal := fun (W : World) (hT : TabQ W) => alive41 W hT
  by_cases hf0 : fitb ll = true
  case neg => exact halves_nofit A c ll i w hT hr hlc hal (Bool.eq_false_iff.2 hf0) trivial
  have h20 := (fitb_of hf0).1
  by_cases h2 : ll.length < 2
  · exact halves_few A c ll i w hT hr hlc hal hf0 h2
  by_cases h3 : i < 0
  · exact halves_neg A c ll i w hT hr hlc hal hf0 ⟨by omega, h3⟩
  by_cases h4 : (ll.length : Int) ≤ i
  · exact halves_big A c ll i w hT hr hlc hal hf0 ⟨by omega, by omega, h4⟩
  obtain ⟨ii, rfl⟩ := Int.eq_ofNat_of_zero_le (show 0 ≤ i by omega)
  have hF := hf_all ll.length (by omega) (by omega)
  obtain ⟨k, hk⟩ : ∃ k, k = hf ll.length := ⟨_, rfl⟩
  have hs := fun j (hj : j < ll.length) => Nat.le_trans (fit_short hf0 j hj) (show 600 ≤ 10000 by decide)
  obtain ⟨A2, hcut2, hC2⟩ := cut51b A ll.length c k (by omega) hlc
  have ht : (ll.take k).length = k := by rw [List.length_take, Nat.min_eq_left (by omega)]
  have hd : (ll.drop k).length = ll.length - k := List.length_drop
  have hm : (ll.map lfg).length = ll.length := List.length_map ..
  have hst : ∀ j, j < (ll.take k).length → ((ll.take k).getD j []).length ≤ 10000 := by
    intro j hj
    have := hs j (by omega)
    rwa [List.getD_eq_getElem?_getD, List.getElem?_take, if_pos (by omega), ← List.getD_eq_getElem?_getD]
  have hsd : ∀ j, j < (ll.drop k).length → ((ll.drop k).getD j []).length ≤ 10000 := by
    intro j hj
    have := hs (k + j) (by omega)
    rwa [List.getD_eq_getElem?_getD, List.getElem?_drop, ← List.getD_eq_getElem?_getD]
  have hCt : ∀ W : World, Below w.heap.size w W → Kd.C (Kd.slice 5 (Kd.int .u8)) W A (ll.take k).length (ll.take k) := fun W hB => Kd.C_take (Kd.C_below hr hB) (by omega)
  have hCd : ∀ W : World, Below w.heap.size w W → Kd.C (Kd.slice 5 (Kd.int .u8)) W A2 (ll.drop k).length (ll.drop k) := fun W hB => by rw [hd]; exact hC2 W ll rfl (Kd.C_below hr hB)
  have hroot : rootg 600 (ll.map lfg) = ndg (rootg 600 ((ll.take k).map lfg)) (rootg 600 ((ll.drop k).map lfg)) := by rw [rootg_two (ll.map lfg) (by omega) (by omega), hm, ← hk, List.map_take, List.map_drop]
  have c1 := fun (W : World) (hT : TabQ W) (hB : Below w.heap.size w W) => proot_calls A c ll W hT (Kd.C_below hr hB) (by omega) hs
  have c2 := fun (W : World) (hT : TabQ W) (hB : Below w.heap.size w W) => proot_calls A c (ll.take k) W hT (hCt W hB) (by omega) hst
  have c3 := fun (W : World) (hT : TabQ W) (hB : Below w.heap.size w W) => proot_calls A2 (c - k) (ll.drop k) W hT (hCd W hB) (by omega) hsd
  have c4 := fun (W : World) (hT : TabQ W) => lnode_calls (rootg 600 ((ll.take k).map lfg)) (rootg 600 ((ll.drop k).map lfg)) W hT
  rw [← hroot] at c4
  have c5 := fun (W : World) (hT : TabQ W) (hB : Below w.heap.size w W) => pprove_calls A c ll W hT (Kd.C_below hr hB) (by omega) hs ii (by omega)
  have hh := fun W => Half_calls ll.length (by omega) (by omega) W
  rw [← hk] at hh
  rw [ht] at c2
  rw [hd] at c3
  by_cases h5 : k ≤ ii
  · have c6 := fun (W : World) (hT : TabQ W) (hB : Below w.heap.size w W) => pprove_calls A2 (c - k) (ll.drop k) W hT (hCd W hB) (by omega) hsd (ii - k) (by omega)
    rw [hd] at c6
    refine halves_right A c ll ii k A2 w hT hr hlc hal hf0 ⟨by omega, by omega, by omega, h5⟩ h20 (rootg 600 (ll.map lfg)) (rootg 600 ((ll.take k).map lfg)) (rootg 600 ((ll.drop k).map lfg)) (pwr (rootg 600) 600 (ll.map lfg) ii).reverse (pwr (rootg 600) 600 ((ll.drop k).map lfg) (ii - k)).reverse ?_ ?_ hcut2 hh c1 c2 c3 c4 c5 c6
    · rw [pwr_r (rootg 600) (ll.map lfg) ii (by omega) (by omega) (by rw [hm, ← hk]; exact h5), List.reverse_cons, hm, ← hk, List.map_take, List.map_drop]
    · rw [List.length_reverse]
      have := pwr_lens (rootg 600) 600 ((ll.drop k).map lfg) (ii - k) (by rw [List.length_map]; omega)
      rw [List.length_map] at this
      omega
  · have c6 := fun (W : World) (hT : TabQ W) (hB : Below w.heap.size w W) => pprove_calls A c (ll.take k) W hT (hCt W hB) (by omega) hst ii (by omega)
    rw [ht] at c6
    refine halves_left A c ll ii k A2 w hT hr hlc hal hf0 ⟨by omega, by omega, by omega, by omega⟩ h20 (rootg 600 (ll.map lfg)) (rootg 600 ((ll.take k).map lfg)) (rootg 600 ((ll.drop k).map lfg)) (pwr (rootg 600) 600 (ll.map lfg) ii).reverse (pwr (rootg 600) 600 ((ll.take k).map lfg) ii).reverse ?_ ?_ hcut2 hh c1 c2 c3 c4 c5 c6
    · rw [pwr_l (rootg 600) (ll.map lfg) ii (by omega) (by omega) (by rw [hm, ← hk]; exact h5), List.reverse_cons, hm, ← hk, List.map_take, List.map_drop]
    · rw [List.length_reverse]
      have := pwr_lens (rootg 600) 600 ((ll.take k).map lfg) ii (by rw [List.length_map]; omega)
      rw [List.length_map] at this
      omega
end Go.Proofs.YtbldecdipicddaaDoor.Hand
