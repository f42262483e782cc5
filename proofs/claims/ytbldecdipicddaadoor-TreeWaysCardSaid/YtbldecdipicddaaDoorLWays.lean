/- TreeWays answers true. -/
import Derived.Test.YtbldecdipicddaaDoorHWays
import Derived.Test.YtbldecdipicddaaDoorLAlive41
import Derived.Test.YtbldecdipicddaaDoorTreeVer
set_option linter.unusedSimpArgs false
set_option linter.unusedVariables false
namespace Go.Proofs.YtbldecdipicddaaDoor.Hand
open Go Go.RowKit Go.Proofs.YtbldecdipicddaaDoorW.PrintWords Go.Proofs.YtbldecdipicddaaDoor.QZ
theorem fit_short3 {ll : List (List Int)} (h : fitb ll = true) (j : Nat) (hj : j < ll.length) : (ll.getD j []).length ≤ 600 := fit_of (fitb_of h).2 (fitb_of h).1 j hj
theorem ways (n i : Int) (A : Option Addr) (c : Nat) (ll : List (List Int)) (p q : Int) (w : World) (hT : TabQ w) (hr : Kd.C (Kd.slice 5 (Kd.int .u8)) w A ll.length ll) (hlc : ll.length ≤ c) :
    Calls Tryd.prog 9 #[.int .i64 n, .int .i64 i, .slice A ll.length c, .int .i64 p, .int .i64 q] w fun e w' => e = .returned (.bool true) ∧ Below w.heap.size w w' := by
  have hal := fun (W : World) (hT : TabQ W) => alive41 W hT
  by_cases h1 : n < 1
  · exact ways_low n i A c ll p q w hT hal h1
  by_cases h2 : 600 < n
  · exact ways_high n i A c ll p q w hT hal h2
  by_cases h3 : i < 0
  · exact ways_neg n i A c ll p q w hT hal ⟨by omega, by omega, h3⟩
  by_cases h4 : n ≤ i
  · exact ways_big n i A c ll p q w hT hal ⟨by omega, by omega, by omega, h4⟩
  obtain ⟨nn, rfl⟩ := Int.eq_ofNat_of_zero_le (show 0 ≤ n by omega)
  obtain ⟨ii, rfl⟩ := Int.eq_ofNat_of_zero_le (show 0 ≤ i by omega)
  obtain ⟨s, hsd, hsl, hst, hsides⟩ := way nn ii (by omega) (by omega)
  obtain ⟨t, htd, htl, htt, htsides⟩ := way nn (nn - 1) (by omega) (by omega)
  have hni : 1 ≤ nn ∧ nn ≤ 600 ∧ ii < nn := by omega
  have hs1 := sd_le s nn ii hsd (by omega)
  have hs2 : t.length ≤ s.length := by
    have e1 := sd_last t nn (nn - 1) rfl htd (by omega)
    have e2 := sd_ge s nn ii hsd (by omega)
    omega
  by_cases hf0 : fitb ll = true
  case neg => exact ways_nofit nn ii A c ll p q w hT hr hlc hal hni s.length t.length hs1 hs2 hst htt (Bool.eq_false_iff.2 hf0) trivial
  have h20 := (fitb_of hf0).1
  by_cases h5 : p < 0
  · exact ways_atneg nn ii A c ll p q w hT hr hlc hal hni s.length t.length hs1 hs2 hst htt hf0 h5
  by_cases h6 : (ll.length : Int) ≤ p
  · exact ways_atbig nn ii A c ll p q w hT hr hlc hal hni s.length t.length hs1 hs2 hst htt hf0 ⟨by omega, h6⟩
  obtain ⟨pp, rfl⟩ := Int.eq_ofNat_of_zero_le (show 0 ≤ p by omega)
  have hp : pp < ll.length := by omega
  have hshort := fun j (hj : j < ll.length) => Nat.le_trans (fit_short3 hf0 j hj) (show 600 ≤ 10000 by decide)
  have hm : (ll.map lfg).length = ll.length := List.length_map ..
  obtain ⟨ad, rfl, _⟩ := hr.2.2 (by omega)
  obtain ⟨s', hsd', hsl', hst', hsides'⟩ := way ll.length pp hp (by omega)
  obtain ⟨ps, hps⟩ : ∃ ps, ps = (pwr (rootg 600) 600 (ll.map lfg) pp).reverse := ⟨_, rfl⟩
  have hpl : ps.length = s'.length := by rw [hps, List.length_reverse]; exact pwr_sd (rootg 600) s' ll.length pp (ll.map lfg) 600 hsd' hm (by omega) (by omega)
  have c1 := fun (W : World) (hT : TabQ W) (hB : Below w.heap.size w W) => proot_calls (some ad) c ll W hT (Kd.C_below hr hB) (by omega) hshort
  have c2 := fun (W : World) (hT : TabQ W) (hB : Below w.heap.size w W) => pprove_calls (some ad) c ll W hT (Kd.C_below hr hB) (by omega) hshort pp hp
  rw [← hps] at c2
  by_cases h7 : q < 0
  · exact ways_stneg nn ii ad c ll pp q w hT hr hlc hal hni s.length t.length hs1 hs2 hst htt hf0 hp (rootg 600 (ll.map lfg)) ps h7 c1 c2
  by_cases h8 : (ps.length : Int) ≤ q
  · exact ways_stbig nn ii ad c ll pp q w hT hr hlc hal hni s.length t.length hs1 hs2 hst htt hf0 hp (rootg 600 (ll.map lfg)) ps ⟨by omega, h8⟩ c1 c2
  obtain ⟨qq, rfl⟩ := Int.eq_ofNat_of_zero_le (show 0 ≤ q by omega)
  obtain ⟨Ai, ci, hcell, hle, hC⟩ := rows_get hr pp hp
  obtain ⟨x, hx⟩ : ∃ x, x = ll.getD pp [] := ⟨_, rfl⟩
  have hx2 : x.length ≤ 10000 := by rw [hx]; exact hshort pp hp
  rw [← hx] at hcell hle hC
  obtain ⟨qs, hqs⟩ : ∃ qs, qs = ps.set qq (put0 (ps.getD qq zdg) (Go.bits .xor .u8 (ps.getD qq zdg 0) 1)) := ⟨_, rfl⟩
  have hql : qs.length = ps.length := by rw [hqs, List.length_set]
  have hqr : qs.reverse.length = s'.length := by rw [List.length_reverse, hql, hpl]
  obtain ⟨u, hu⟩ : ∃ u, u = goup s' qs.reverse (lfg x) := ⟨_, rfl⟩
  obtain ⟨r, hrr⟩ : ∃ r, r = rootg 600 (ll.map lfg) := ⟨_, rfl⟩
  rw [← hrr] at c1
  obtain ⟨b, hb⟩ : ∃ b : Bool, ∀ (k : Nat) (W : World), (Op.equalIn (k + 2) 23 (.agg #[.int .u8 (u 0), .int .u8 (u 1), .int .u8 (u 2), .int .u8 (u 3), .int .u8 (u 4), .int .u8 (u 5), .int .u8 (u 6), .int .u8 (u 7), .int .u8 (u 8), .int .u8 (u 9), .int .u8 (u 10), .int .u8 (u 11), .int .u8 (u 12), .int .u8 (u 13), .int .u8 (u 14), .int .u8 (u 15), .int .u8 (u 16), .int .u8 (u 17), .int .u8 (u 18), .int .u8 (u 19)]) (.agg #[.int .u8 (r 0), .int .u8 (r 1), .int .u8 (r 2), .int .u8 (r 3), .int .u8 (r 4), .int .u8 (r 5), .int .u8 (r 6), .int .u8 (r 7), .int .u8 (r 8), .int .u8 (r 9), .int .u8 (r 10), .int .u8 (r 11), .int .u8 (r 12), .int .u8 (r 13), .int .u8 (r 14), .int .u8 (r 15), .int .u8 (r 16), .int .u8 (r 17), .int .u8 (r 18), .int .u8 (r 19)])).run Tryd.prog W = .ok b W := ⟨_, fun k W => eqA23 k W (u 0) (r 0) (u 1) (r 1) (u 2) (r 2) (u 3) (r 3) (u 4) (r 4) (u 5) (r 5) (u 6) (r 6) (u 7) (r 7) (u 8) (r 8) (u 9) (r 9) (u 10) (r 10) (u 11) (r 11) (u 12) (r 12) (u 13) (r 13) (u 14) (r 14) (u 15) (r 15) (u 16) (r 16) (u 17) (r 17) (u 18) (r 18) (u 19) (r 19)⟩
  refine ways_main nn ii ad c ll pp qq w hT hr hlc hal hni s.length t.length hs1 hs2 hst htt hf0 hp h20 r u (lfg x) b ps (by omega) (by omega) x Ai ci (fun W hB => cell_below hB hcell) hb c1 c2 ?_ ?_ ?_
  · exact fun W hT hB => leaf_ok Ai ci x W hT (Kd.C_below hC hB) (by omega)
  · intro W rp cp k hk hT hC2
    rw [← hqs] at hC2
    rw [hu]
    have := pup_calls ll.length pp hp (by omega) s' hsd' hsl' rp cp qs.reverse (lfg x) W hT (by rw [List.reverse_reverse, hql, ← hk]; exact hC2) hqr hst' hsides'
    rw [List.reverse_reverse, hql, ← hk] at this
    exact this
  · intro W rp cp k hk hT hB hC2
    rw [← hqs] at hC2
    have := pver_calls r ll.length pp hp (by omega) s' hsd' hsl' Ai ci x rp cp qs.reverse u b W hT (Kd.C_below hC hB) hx2 (by rw [List.reverse_reverse, hql, ← hk]; exact hC2) hqr hst' hsides' hu hb
    rw [List.reverse_reverse, hql, ← hk] at this
    exact this
end Go.Proofs.YtbldecdipicddaaDoor.Hand
