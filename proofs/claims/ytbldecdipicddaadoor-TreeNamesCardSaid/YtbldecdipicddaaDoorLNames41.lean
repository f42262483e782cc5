/- TreeNames answers true. -/
import Derived.Test.YtbldecdipicddaaDoorHNames41
import Derived.Test.YtbldecdipicddaaDoorLAlive41
import Derived.Test.YtbldecdipicddaaDoorHUp
import Derived.Test.YtbldecdipicddaaDoorHVerify
set_option linter.unusedSimpArgs false
set_option linter.unusedVariables false
namespace Go.Proofs.YtbldecdipicddaaDoor.Hand
open Go Go.RowKit Go.Proofs.YtbldecdipicddaaDoorW.PrintWords Go.Proofs.YtbldecdipicddaaDoor.QZ
theorem steps_bad (n i : Int) (h : tree_Steps.f 30 n i = some (0, 2)) (W : World) : Calls Tryd.prog 37 #[.int .i64 n, .int .i64 i] W fun e w' => e = .returned (.tuple #[.int .i64 0, .int .i64 2]) ∧ Below W.heap.size W w' := tree_Steps.calls 30 n i 0 2 W h
def sev : Dg := fun k => if k = 0 then 7 else 0
theorem eq_dg (a : Dg) (k : Nat) (W : World) : (Op.equalIn (k + 2) 23 (.agg #[.int .u8 (a 0), .int .u8 (a 1), .int .u8 (a 2), .int .u8 (a 3), .int .u8 (a 4), .int .u8 (a 5), .int .u8 (a 6), .int .u8 (a 7), .int .u8 (a 8), .int .u8 (a 9), .int .u8 (a 10), .int .u8 (a 11), .int .u8 (a 12), .int .u8 (a 13), .int .u8 (a 14), .int .u8 (a 15), .int .u8 (a 16), .int .u8 (a 17), .int .u8 (a 18), .int .u8 (a 19)]) (.agg #[.int .u8 (a 0), .int .u8 (a 1), .int .u8 (a 2), .int .u8 (a 3), .int .u8 (a 4), .int .u8 (a 5), .int .u8 (a 6), .int .u8 (a 7), .int .u8 (a 8), .int .u8 (a 9), .int .u8 (a 10), .int .u8 (a 11), .int .u8 (a 12), .int .u8 (a 13), .int .u8 (a 14), .int .u8 (a 15), .int .u8 (a 16), .int .u8 (a 17), .int .u8 (a 18), .int .u8 (a 19)])).run Tryd.prog W = .ok true W := by
  have h := eqA23 k W (a 0) (a 0) (a 1) (a 1) (a 2) (a 2) (a 3) (a 3) (a 4) (a 4) (a 5) (a 5) (a 6) (a 6) (a 7) (a 7) (a 8) (a 8) (a 9) (a 9) (a 10) (a 10) (a 11) (a 11) (a 12) (a 12) (a 13) (a 13) (a 14) (a 14) (a 15) (a 15) (a 16) (a 16) (a 17) (a 17) (a 18) (a 18) (a 19) (a 19)
  simp only [beq_self_eq_true, Bool.and_self] at h
  exact h
theorem beq_sw (a b : Int) : (a == b) = (b == a) := by
  rw [Bool.eq_iff_iff, beq_iff_eq, beq_iff_eq]
  exact ⟨fun h => h.symm, fun h => h.symm⟩
theorem eq_two (y z : Dg) : ∃ q : Bool, (∀ (k : Nat) (W : World), (Op.equalIn (k + 2) 23 (.agg #[.int .u8 (y 0), .int .u8 (y 1), .int .u8 (y 2), .int .u8 (y 3), .int .u8 (y 4), .int .u8 (y 5), .int .u8 (y 6), .int .u8 (y 7), .int .u8 (y 8), .int .u8 (y 9), .int .u8 (y 10), .int .u8 (y 11), .int .u8 (y 12), .int .u8 (y 13), .int .u8 (y 14), .int .u8 (y 15), .int .u8 (y 16), .int .u8 (y 17), .int .u8 (y 18), .int .u8 (y 19)]) (.agg #[.int .u8 (z 0), .int .u8 (z 1), .int .u8 (z 2), .int .u8 (z 3), .int .u8 (z 4), .int .u8 (z 5), .int .u8 (z 6), .int .u8 (z 7), .int .u8 (z 8), .int .u8 (z 9), .int .u8 (z 10), .int .u8 (z 11), .int .u8 (z 12), .int .u8 (z 13), .int .u8 (z 14), .int .u8 (z 15), .int .u8 (z 16), .int .u8 (z 17), .int .u8 (z 18), .int .u8 (z 19)])).run Tryd.prog W = .ok q W) ∧ ∀ (k : Nat) (W : World), (Op.equalIn (k + 2) 23 (.agg #[.int .u8 (z 0), .int .u8 (z 1), .int .u8 (z 2), .int .u8 (z 3), .int .u8 (z 4), .int .u8 (z 5), .int .u8 (z 6), .int .u8 (z 7), .int .u8 (z 8), .int .u8 (z 9), .int .u8 (z 10), .int .u8 (z 11), .int .u8 (z 12), .int .u8 (z 13), .int .u8 (z 14), .int .u8 (z 15), .int .u8 (z 16), .int .u8 (z 17), .int .u8 (z 18), .int .u8 (z 19)]) (.agg #[.int .u8 (y 0), .int .u8 (y 1), .int .u8 (y 2), .int .u8 (y 3), .int .u8 (y 4), .int .u8 (y 5), .int .u8 (y 6), .int .u8 (y 7), .int .u8 (y 8), .int .u8 (y 9), .int .u8 (y 10), .int .u8 (y 11), .int .u8 (y 12), .int .u8 (y 13), .int .u8 (y 14), .int .u8 (y 15), .int .u8 (y 16), .int .u8 (y 17), .int .u8 (y 18), .int .u8 (y 19)])).run Tryd.prog W = .ok q W := by
  refine ⟨_, fun k W => eqA23 k W (y 0) (z 0) (y 1) (z 1) (y 2) (z 2) (y 3) (z 3) (y 4) (z 4) (y 5) (z 5) (y 6) (z 6) (y 7) (z 7) (y 8) (z 8) (y 9) (z 9) (y 10) (z 10) (y 11) (z 11) (y 12) (z 12) (y 13) (z 13) (y 14) (z 14) (y 15) (z 15) (y 16) (z 16) (y 17) (z 17) (y 18) (z 18) (y 19) (z 19), fun k W => ?_⟩
  have h := eqA23 k W (z 0) (y 0) (z 1) (y 1) (z 2) (y 2) (z 3) (y 3) (z 4) (y 4) (z 5) (y 5) (z 6) (y 6) (z 7) (y 7) (z 8) (y 8) (z 9) (y 9) (z 10) (y 10) (z 11) (y 11) (z 12) (y 12) (z 13) (y 13) (z 14) (y 14) (z 15) (y 15) (z 16) (y 16) (z 17) (y 17) (z 18) (y 18) (z 19) (y 19)
  rw [beq_sw (z 0) (y 0), beq_sw (z 1) (y 1), beq_sw (z 2) (y 2), beq_sw (z 3) (y 3), beq_sw (z 4) (y 4), beq_sw (z 5) (y 5), beq_sw (z 6) (y 6), beq_sw (z 7) (y 7), beq_sw (z 8) (y 8), beq_sw (z 9) (y 9), beq_sw (z 10) (y 10), beq_sw (z 11) (y 11), beq_sw (z 12) (y 12), beq_sw (z 13) (y 13), beq_sw (z 14) (y 14), beq_sw (z 15) (y 15), beq_sw (z 16) (y 16), beq_sw (z 17) (y 17), beq_sw (z 18) (y 18), beq_sw (z 19) (y 19)] at h
  exact h
theorem rep_short (n j : Nat) : ((List.replicate n ([] : List Int)).getD j []).length ≤ 10000 := by
  rw [List.getD_eq_getElem?_getD, List.getElem?_replicate]
  by_cases h : j < n
  · rw [if_pos h]
    exact Nat.zero_le _
  · rw [if_neg h]
    exact Nat.zero_le _
theorem nilC (W : World) : Kd.C (Kd.int .u8) W none ([] : List Int).length [] := ⟨rfl, by decide, fun h => absurd h (by decide)⟩
theorem nilR (W : World) : Kd.C (Kd.slice 5 (Kd.int .u8)) W none ([] : List (List Int)).length [] := ⟨rfl, by decide, fun h => absurd h (by decide)⟩
theorem leaf_nil (W : World) (hT : TabQ W) : Calls Tryd.prog 39 #[.slice none 0 0] W fun e w' => e = .returned (.tuple #[.agg #[.int .u8 (lfg [] 0), .int .u8 (lfg [] 1), .int .u8 (lfg [] 2), .int .u8 (lfg [] 3), .int .u8 (lfg [] 4), .int .u8 (lfg [] 5), .int .u8 (lfg [] 6), .int .u8 (lfg [] 7), .int .u8 (lfg [] 8), .int .u8 (lfg [] 9), .int .u8 (lfg [] 10), .int .u8 (lfg [] 11), .int .u8 (lfg [] 12), .int .u8 (lfg [] 13), .int .u8 (lfg [] 14), .int .u8 (lfg [] 15), .int .u8 (lfg [] 16), .int .u8 (lfg [] 17), .int .u8 (lfg [] 18), .int .u8 (lfg [] 19)], .int .i64 0]) ∧ Below W.heap.size W w' := leaf_ok none 0 [] W hT (nilC W) (by show ¬ 10000 < 0; decide)
theorem names41 (w : World) (hT : TabQ w) : Calls Tryd.prog 20 #[] w fun e w' => e = .returned (.bool true) ∧ Below w.heap.size w w' := by
  obtain ⟨y, hy⟩ : ∃ y, y = rootg 600 ((List.replicate 600 ([] : List Int)).map lfg) := ⟨_, rfl⟩
  obtain ⟨q, hq1, hq2⟩ := eq_two y (lfg [])
  have hlen : (List.replicate 10001 (0 : Int)).length = 10001 := List.length_replicate
  refine names41_walk w hT (fun W hT => alive41 W hT) y (lfg []) q hq1
    (fun W => steps_at 1 0 0 (by decide +kernel) W) (fun W => steps_at 2 0 1 (by decide +kernel) W) (fun W => steps_at 3 0 2 (by decide +kernel) W) (fun W => steps_at 4 0 2 (by decide +kernel) W) (fun W => steps_at 5 0 3 (by decide +kernel) W) (fun W => steps_at 6 0 3 (by decide +kernel) W) (fun W => steps_at 7 0 3 (by decide +kernel) W) (fun W => steps_at 8 0 3 (by decide +kernel) W)
    (fun W => steps_at 600 599 6 (by decide +kernel) W) (fun W => steps_at 600 0 10 (by decide +kernel) W) (fun W => steps_at 5 4 1 (by decide +kernel) W) (fun W => steps_bad 0 0 (by decide +kernel) W) (fun W => steps_bad 601 0 (by decide +kernel) W) (fun W => steps_bad 3 3 (by decide +kernel) W) (fun W => steps_bad 3 (-1) (by decide +kernel) W)
    ?_ ?_ ?_ ?_ ?_ ?_ ?_ ?_ ?_ ?_ ?_ ?_ ?_ ?_ ?_ ?_ ?_ ?_
  · intro W A c
    have := leafw_many A c (List.replicate 10001 0) W (by rw [hlen]; decide)
    rw [hlen] at this
    exact this
  · exact fun W A c => hRoot_errb A 601 c W (fun W1 _ => leaves_many A 601 c W1 (by decide))
  · intro W A c hC
    exact hRoot_errb A 2 c W (fun W1 hB => leaves_long A c [[], List.replicate 10001 0] W1 (Kd.C_below hC hB) (by show 2 ≤ 600; decide) (by
      rw [List.any_cons, List.any_cons]
      unfold long
      rw [hlen]
      rfl))
  · exact fun W A c => (hProve_err A 601 c (-1) W (fun W1 => leaves_many A 601 c W1 (by decide))).mono (fun e w' h => ⟨h.1, by rw [h.2]; exact Below.refl _ _⟩)
  · exact fun W hT => hProve_big none 0 0 0 (([] : List (List Int)).map lfg) W hT ⟨by decide, by decide⟩ (fun W1 hT1 hB => pleaves none 0 [] W (nilR W) (by decide) (fun j hj => absurd hj (Nat.not_lt_zero _)) W1 hT1 hB)
  · exact fun W A c hT hC => hProve_big A 2 c 2 ((List.replicate 2 ([] : List Int)).map lfg) W hT ⟨by decide, by decide⟩ (fun W1 hT1 hB => pleaves A c (List.replicate 2 []) W hC (by decide) (fun j hj => rep_short 2 j) W1 hT1 hB)
  · intro W A c hT hC
    have := pprove_calls A c (List.replicate 1 []) W hT hC (by decide) (fun j hj => rep_short 1 j) 0 (by decide)
    rw [pwr_end (rootg 600) 600 ((List.replicate 1 ([] : List Int)).map lfg) 0 (by decide)] at this
    exact this
  · exact fun W hT => hUp_err 3 3 none 0 0 zdg W hT 0 2 (by decide) (fun W => steps_bad 3 3 (by decide +kernel) W)
  · exact fun W hT => hUp_form 3 2 none 0 0 zdg W hT 1 (by decide) (fun W => steps_at 3 2 1 (by decide +kernel) W)
  · exact fun W A c hT => hUp_form 1 0 A 1 c zdg W hT 0 (by decide) (fun W => steps_at 1 0 0 (by decide +kernel) W)
  · exact fun W hT => hUp_zero 1 0 none 0 sev W hT (fun W => steps_at 1 0 0 (by decide +kernel) W) (fun W => tree_sides.calls 6 1 0 [] W (by decide +kernel))
  · intro W A c hT
    exact hVer_leaf zdg 0 0 A 10001 c none 0 0 W hT 4 (by decide) (fun W hT hB => by
      have := leafw_many A c (List.replicate 10001 0) W (by rw [hlen]; decide)
      rw [hlen] at this
      exact this)
  · exact fun W hT => hVer_up zdg 0 0 none 0 0 none 0 0 W hT (lfg []) 2 (by decide) (fun W hT hB => leaf_nil W hT) (fun W hT hB => hUp_err 0 0 none 0 0 (lfg []) W hT 0 2 (by decide) (fun W => steps_bad 0 0 (by decide +kernel) W))
  · exact fun W hT => hVer_up zdg 2 0 none 0 0 none 0 0 W hT (lfg []) 12 (by decide) (fun W hT hB => leaf_nil W hT) (fun W hT hB => hUp_form 2 0 none 0 0 (lfg []) W hT 1 (by decide) (fun W => steps_at 2 0 1 (by decide +kernel) W))
  · intro W A c hT hC
    have hl6 : (List.replicate 600 ([] : List Int)).length = 600 := List.length_replicate
    have := proot_calls A c (List.replicate 600 []) W hT (by rw [hl6]; exact hC) (by rw [hl6]; decide) (fun j hj => rep_short 600 j)
    rw [← hy, hl6] at this
    exact this
  · intro W A c hT hC
    have := proot_calls A c (List.replicate 1 []) W hT hC (by decide) (fun j hj => rep_short 1 j)
    rw [show (List.replicate 1 ([] : List Int)).map lfg = [lfg []] from rfl, root1] at this
    exact this
  · exact fun W hT => hVer_ok y 1 0 none 0 0 none 0 0 W hT (lfg []) (lfg []) q (fun W hT hB => leaf_nil W hT) (fun W hT hB => hUp_zero 1 0 none 0 (lfg []) W hT (fun W => steps_at 1 0 0 (by decide +kernel) W) (fun W => tree_sides.calls 6 1 0 [] W (by decide +kernel))) hq2
  · exact fun W hT => hVer_ok (lfg []) 1 0 none 0 0 none 0 0 W hT (lfg []) (lfg []) true (fun W hT hB => leaf_nil W hT) (fun W hT hB => hUp_zero 1 0 none 0 (lfg []) W hT (fun W => steps_at 1 0 0 (by decide +kernel) W) (fun W => tree_sides.calls 6 1 0 [] W (by decide +kernel))) (fun k W => eq_dg (lfg []) k W)
end Go.Proofs.YtbldecdipicddaaDoor.Hand
