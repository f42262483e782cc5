/- fit, cuts of lists of strings. Written by wip/s1/mkhalves.py. -/
import Derived.Test.YtbldecdipicddaaDoorHGreat
set_option linter.unusedSimpArgs false
set_option linter.unusedVariables false
namespace Go.Proofs.YtbldecdipicddaaDoor.Hand
open Go Go.RowKit Go.Proofs.YtbldecdipicddaaDoorW.PrintWords Go.Proofs.YtbldecdipicddaaDoorW.PrintLast
def fitb (ll : List (List Int)) : Bool := decide (ll.length ≤ 20) && !great ll
theorem fit_calls (A : Option Addr) (c : Nat) (ll : List (List Int)) (w : World) (hr : Kd.C (Kd.slice 5 (Kd.int .u8)) w A ll.length ll) (hl : ll.length ≤ c) : Calls Tryd.prog 34 #[.slice A ll.length c] w fun e w' => e = .returned (.bool (fitb ll)) ∧ w' = w := by
  by_cases h : ll.length ≤ 20
  · have e : fitb ll = !great ll := by unfold fitb; rw [decide_eq_true h, Bool.true_and]
    rw [e]
    exact fit_few A c ll w hr hl h
  · have e : fitb ll = false := by unfold fitb; rw [decide_eq_false h, Bool.false_and]
    rw [e]
    exact fit_many A c ll w hr hl h
theorem fitb_of {ll : List (List Int)} (h : fitb ll = true) : ll.length ≤ 20 ∧ great ll = false := by
  unfold fitb at h
  simp only [Bool.and_eq_true, decide_eq_true_eq, Bool.not_eq_true'] at h
  exact h
theorem cut51 (A : Option Addr) (n c k : Nat) (hk : k ≤ n) (hc : n ≤ c) (W : World) : (Instr.slice 51 (.slice A n c) none (some (.int .i64 (k : Int))) none).run Tryd.prog W = .ok (.slice A k c) W := by
  obtain ⟨i0, hi0⟩ := Option.isSome_iff_exists.1 (show (Tryd.prog.info? 26).isSome = true by kernel_rfl)
  have := cut_to (P := Tryd.prog) 51 26 .i64 Tryd.underlying51 hi0 A n c (k : Int) (by omega) (by omega) hc W
  rwa [Int.toNat_natCast] at this
theorem cut51b (A : Option Addr) (n c k : Nat) (hk : k ≤ n) (hc : n ≤ c) : ∃ A2 : Option Addr, (∀ W : World, (Instr.slice 51 (.slice A n c) (some (.int .i64 (k : Int))) none none).run Tryd.prog W = .ok (.slice A2 (n - k) (c - k)) W) ∧
    ∀ (W : World) (l : List (List Int)), l.length = n → Kd.C (Kd.slice 5 (Kd.int .u8)) W A n l → Kd.C (Kd.slice 5 (Kd.int .u8)) W A2 (n - k) (l.drop k) := by
  obtain ⟨i0, hi0, hsz⟩ : ∃ i0, Tryd.prog.info? 26 = some i0 ∧ i0.size = 1 := by
    have h : (Tryd.prog.info? 26).map (fun i => i.size) = some 1 := by kernel_rfl
    obtain ⟨i0, h1, h2⟩ := Option.map_eq_some_iff.1 h
    exact ⟨i0, h1, h2⟩
  refine ⟨_, fun W => cut_from (P := Tryd.prog) 51 26 .i64 Tryd.underlying51 hi0 1 hsz A n c (k : Int) (by omega) (by omega) W, fun W l hl h => ?_⟩
  subst hl
  have h2 := Kd.C_drop (m := k) (c := c) h hk hc
  rw [List.length_drop] at h2
  exact h2
end Go.Proofs.YtbldecdipicddaaDoor.Hand
