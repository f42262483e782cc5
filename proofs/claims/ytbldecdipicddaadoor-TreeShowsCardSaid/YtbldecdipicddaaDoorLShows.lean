/- TreeShows answers true. -/
import Derived.Test.YtbldecdipicddaaDoorHShows
import Derived.Test.YtbldecdipicddaaDoorLAlive41
import Derived.Test.YtbldecdipicddaaDoorTreeVer
set_option linter.unusedSimpArgs false
set_option linter.unusedVariables false
namespace Go.Proofs.YtbldecdipicddaaDoor.Hand
open Go Go.RowKit Go.Proofs.YtbldecdipicddaaDoorW.PrintWords Go.Proofs.YtbldecdipicddaaDoor.QZ
theorem fit_short2 {ll : List (List Int)} (h : fitb ll = true) (j : Nat) (hj : j < ll.length) : (ll.getD j []).length ≤ 600 := fit_of (fitb_of h).2 (fitb_of h).1 j hj
theorem map_set (f : List Int → Dg) (ll : List (List Int)) (i : Nat) (x : List Int) : (ll.set i x).map f = (ll.map f).set i (f x) := List.map_set
theorem set_self (l : List Dg) (i : Nat) (h : i < l.length) : l.set i (l.getD i zdg) = l := by
  rw [List.getD_eq_getElem?_getD, List.getElem?_eq_getElem h]
  exact List.set_getElem_self h
set_option maxRecDepth 10000 in
theorem dgn20 : ∀ n : Nat, n < 21 → dgn 20 (n - 1) ≤ 10 := by decide
theorem shows (A : Option Addr) (c : Nat) (ll : List (List Int)) (i : Int) (B : Option Addr) (cb : Nat) (lb : List Int) (w : World) (hT : TabQ w) (hr : Kd.C (Kd.slice 5 (Kd.int .u8)) w A ll.length ll) (hlc : ll.length ≤ c) (hrb : Kd.C (Kd.int .u8) w B lb.length lb) (hcb : lb.length ≤ cb) :
    Calls Tryd.prog 7 #[.slice A ll.length c, .int .i64 i, .slice B lb.length cb] w fun e w' => e = .returned (.bool true) ∧ Below w.heap.size w w' := by
  have hal := fun (W : World) (hT : TabQ W) => alive41 W hT
  by_cases hf0 : fitb ll = true
  case neg => exact shows_nofit A c ll i B lb.length cb w hT hr hlc hal (Bool.eq_false_iff.2 hf0) trivial
  have h20 := (fitb_of hf0).1
  by_cases h3 : i < 0
  · exact shows_neg A c ll i B lb.length cb w hT hr hlc hal hf0 h3
  by_cases h4 : (ll.length : Int) ≤ i
  · exact shows_big A c ll i B lb.length cb w hT hr hlc hal hf0 ⟨by omega, h4⟩
  by_cases h5 : 200 < lb.length
  · exact shows_long A c ll i B lb.length cb w hT hr hlc hal hf0 ⟨by omega, by omega, h5⟩
  obtain ⟨ii, rfl⟩ := Int.eq_ofNat_of_zero_le (show 0 ≤ i by omega)
  have hi : ii < ll.length := by omega
  have hshort := fun j (hj : j < ll.length) => Nat.le_trans (fit_short2 hf0 j hj) (show 600 ≤ 10000 by decide)
  have hm : (ll.map lfg).length = ll.length := List.length_map ..
  obtain ⟨ad, rfl, _⟩ := hr.2.2 (by omega)
  obtain ⟨hs, hhl, hh, heach⟩ := hdrs_of hr
  obtain ⟨Ai, ci, hcell, hle, hC⟩ := rows_get hr ii hi
  obtain ⟨s, hsd, hsl, hst, hsides⟩ := way ll.length ii hi (by omega)
  have hsle := Nat.le_trans (sd_le s ll.length ii hsd (by omega)) (dgn20 ll.length (by omega))
  -- the digests beside the way, from the root down
  obtain ⟨pl, hpl⟩ : ∃ pl, pl = pwr (rootg 600) 600 (ll.map lfg) ii := ⟨_, rfl⟩
  have hpls : pl.length = s.length := by rw [hpl]; exact pwr_sd (rootg 600) s ll.length ii (ll.map lfg) 600 hsd hm (by omega) (by omega)
  have hgo := fun x => goup_root x s ll.length ii (ll.map lfg) 600 hsd hm (by omega) (by omega)
  rw [← hpl] at hgo
  have hlb : ¬ 10000 < lb.length := by omega
  have hset : (ll.set ii lb).length = ll.length := List.length_set
  have hsets : ∀ j, j < (ll.set ii lb).length → ((ll.set ii lb).getD j []).length ≤ 10000 := by
    intro j hj
    rw [List.getD_eq_getElem?_getD, List.getElem?_set]
    by_cases h : ii = j
    · rw [if_pos h, if_pos hi]
      show lb.length ≤ 10000
      omega
    · rw [if_neg h, ← List.getD_eq_getElem?_getD]
      exact hshort j (by omega)
  have hlast : goup s pl (lfg (ll.getD ii [])) = rootg 600 (ll.map lfg) := by
    rw [hgo]
    have e : lfg (ll.getD ii []) = (ll.map lfg).getD ii zdg := by
      rw [List.getD_eq_getElem?_getD, List.getD_eq_getElem?_getD, List.getElem?_map, List.getElem?_eq_getElem hi]
      rfl
    rw [e, set_self _ _ (by omega)]
  have hpl2 : pwr (rootg 600) 600 ((ll.set ii lb).map lfg) ii = pl := by rw [map_set, pwr_set (rootg 600) (lfg lb) 600 (ll.map lfg) ii (by omega), hpl]
  refine shows_main ad c ll ii B lb.length cb w hT hr hlc hal hf0 ⟨hi, by omega⟩ h20 lb (rootg 600 (ll.map lfg)) (goup s pl (lfg lb)) (lfg lb) pl.reverse (by rw [List.length_reverse]; omega) hs hhl hh (ll.getD ii []) Ai ci (fun W hB => cell_below hB hcell) ?_ ?_ ?_ ?_ ?_ ?_ ?_ ?_ ?_
  · intro W A1 hB hCW
    rw [← hset]
    rw [← hset] at hCW
    refine rows_hdrs hCW (by rw [List.length_set, hset]; exact hhl) (fun j hj => ?_)
    rw [hset] at hj
    rw [List.getElem?_set, List.getD_eq_getElem?_getD, List.getElem?_set]
    by_cases h : ii = j
    · rw [if_pos h, if_pos h, if_pos (by omega), if_pos hi]
      exact ⟨B, cb, rfl, hcb, Kd.C_below hrb hB⟩
    · rw [if_neg h, if_neg h, ← List.getD_eq_getElem?_getD]
      obtain ⟨Aj, cj, q1, q2, q3⟩ := heach j hj
      exact ⟨Aj, cj, q1, q2, Kd.C_below q3 hB⟩
  · exact fun W hT hB => proot_calls (some ad) c ll W hT (Kd.C_below hr hB) (by omega) hshort
  · intro W hT hB
    have := pprove_calls (some ad) c ll W hT (Kd.C_below hr hB) (by omega) hshort ii hi
    rw [← hpl] at this
    exact this
  · intro W n hn
    rw [hn, List.length_reverse, hpls]
    exact hst W
  · intro W rp cp n hn hT hB hC2
    subst hn
    exact pver_calls (rootg 600 (ll.map lfg)) ll.length ii hi (by omega) s hsd hsl Ai ci (ll.getD ii []) rp cp pl (rootg 600 (ll.map lfg)) true W hT (Kd.C_below hC hB) (hshort ii hi) hC2 hpls hst hsides hlast.symm (fun k W => eq_self _ k W)
  · intro W A1 c1 hT hC2 hc1
    have := proot_calls A1 c1 (ll.set ii lb) W hT (by rw [hset]; exact hC2) (by omega) hsets
    rw [hset, map_set, ← hgo] at this
    exact this
  · exact fun W hT hB => leaf_ok B cb lb W hT (Kd.C_below hrb hB) hlb
  · intro W rp cp n hn hT hC2
    subst hn
    exact pup_calls ll.length ii hi (by omega) s hsd hsl rp cp pl (lfg lb) W hT hC2 hpls hst hsides
  · intro W A1 c1 hT hC2 hc1
    have := pprove_calls A1 c1 (ll.set ii lb) W hT (by rw [hset]; exact hC2) (by omega) hsets ii (by omega)
    rw [hset, hpl2] at this
    exact this
end Go.Proofs.YtbldecdipicddaaDoor.Hand
