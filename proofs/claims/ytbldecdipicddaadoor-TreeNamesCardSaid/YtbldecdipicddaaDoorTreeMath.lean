/- The sides of a way, and what half, sides, steps and Steps answer. -/
import Derived.Test.YtbldecdipicddaaDoorQZx1
set_option linter.unusedSimpArgs false
set_option linter.unusedVariables false
namespace Go.Proofs.YtbldecdipicddaaDoor.Hand
open Go Go.RowKit Go.Proofs.YtbldecdipicddaaDoorW.PrintWords Go.Proofs.YtbldecdipicddaaDoor.QZ
def hfl : Nat → Nat → Nat → Nat
  | 0, _, x => x
  | k + 1, n, x => if 2 * x < n then hfl k n (2 * x) else x
/-- The greatest power of 2 less than n. -/
def hf (n : Nat) : Nat := hfl 10 n 1
set_option maxRecDepth 100000
theorem half_all : ∀ n : Nat, n < 601 → 2 ≤ n → tree_half.f 5 (n : Int) = some (hf n : Int) := by decide +kernel
theorem Half_all : ∀ n : Nat, n < 601 → 2 ≤ n → bitloftref41_Half.f 12 (n : Int) = some (hf n : Int) := by decide +kernel
theorem hf_all : ∀ n, n < 601 → 2 ≤ n → 1 ≤ hf n ∧ hf n < n := by decide +kernel
/-- The sides of the way to i of n, from the root down. -/
def Sd : List Bool → Nat → Nat → Prop
  | [], n, i => n = 1 ∧ i = 0
  | b :: s, n, i => 2 ≤ n ∧ i < n ∧ b = decide (hf n ≤ i) ∧ Sd s (if b then n - hf n else hf n) (if b then i - hf n else i)
theorem Sd_ex : ∀ n i, i < n → n ≤ 600 → ∃ s, Sd s n i ∧ s.length < n := by
  intro n
  induction n using Nat.strongRecOn with
  | ind n ih =>
    intro i hi hn
    by_cases h : n = 1
    · exact ⟨[], ⟨h, by omega⟩, by show 0 < n; omega⟩
    have h2 := hf_all n (by omega) (by omega)
    by_cases hb : hf n ≤ i
    · obtain ⟨s, hs, hl⟩ := ih (n - hf n) (by omega) (i - hf n) (by omega) (by omega)
      exact ⟨true :: s, ⟨by omega, hi, (decide_eq_true hb).symm, hs⟩, by rw [List.length_cons]; omega⟩
    · obtain ⟨s, hs, hl⟩ := ih (hf n) (by omega) i (by omega) (by omega)
      exact ⟨false :: s, ⟨by omega, hi, (decide_eq_false hb).symm, hs⟩, by rw [List.length_cons]; omega⟩
theorem raiseO {α : Type} (f : Nat → Option α) (h : ∀ k, LeO (f k) (f (k + 1))) (r : α) (a : Nat) : ∀ d, f a = some r → f (a + d) = some r
  | 0, e => e
  | d + 1, e => h (a + d) r (raiseO f h r a d e)
theorem half_at (k n : Nat) (hk : 5 ≤ k) (h2 : 2 ≤ n) (hn : n ≤ 600) : tree_half.f k (n : Int) = some (hf n : Int) := by
  have := raiseO (fun k => tree_half.f k (n : Int)) (fun k => tree_half.mono _ k) _ 5 (k - 5) (half_all n (by omega) h2)
  rwa [show 5 + (k - 5) = k by omega] at this
theorem Half_at (k n : Nat) (hk : 12 ≤ k) (h2 : 2 ≤ n) (hn : n ≤ 600) : bitloftref41_Half.f k (n : Int) = some (hf n : Int) := by
  have := raiseO (fun k => bitloftref41_Half.f k (n : Int)) (fun k => bitloftref41_Half.mono _ k) _ 12 (k - 12) (Half_all n (by omega) h2)
  rwa [show 12 + (k - 12) = k by omega] at this
theorem Sd_n : ∀ {s : List Bool} {n i : Nat}, Sd s n i → 1 ≤ n ∧ i < n
  | [], n, i, h => by obtain ⟨h1, h2⟩ := h; omega
  | b :: s, n, i, h => by obtain ⟨h1, h2, _⟩ := h; omega
theorem sides_eq : ∀ (s : List Bool) (n i : Nat) (acc : List Bool), Sd s n i → n ≤ 600 → acc.length + s.length ≤ 1000 → tree_sides.l0 (s.length + 6) (n : Int) (i : Int) acc = some (acc ++ s)
  | [], n, i, acc, h, hn, hl => by
    obtain ⟨rfl, rfl⟩ := h
    show tree_sides.l0 (5 + 1) _ _ _ = _
    rw [tree_sides.l0, if_neg (by omega), List.append_nil]
  | b :: s, n, i, acc, h, hn, hl => by
    obtain ⟨h2, hi, hb, hs⟩ := h
    have hf2 := hf_all n (by omega) h2
    rw [List.length_cons] at hl
    rw [List.length_cons, show s.length + 1 + 6 = (s.length + 6) + 1 by omega, tree_sides.l0, if_pos (by omega), half_at _ n (by omega) h2 hn]
    simp only [Option.bind_some]
    rw [if_pos (by omega), show decide ((i : Int) ≥ (hf n : Int)) = b by rw [hb]; exact decide_eq_decide.2 (by omega)]
    cases b with
    | true =>
      have hb' : hf n ≤ i := of_decide_eq_true hb.symm
      rw [if_pos (by omega), show wrap64 ((n : Int) - (hf n : Int)) = ((n - hf n : Nat) : Int) by unfold wrap64; omega, show wrap64 ((i : Int) - (hf n : Int)) = ((i - hf n : Nat) : Int) by unfold wrap64; omega, sides_eq s (n - hf n) (i - hf n) (acc ++ [true]) hs (by omega) (by rw [List.length_append, List.length_singleton]; omega), List.append_assoc]
      rfl
    | false =>
      have hb' : ¬ hf n ≤ i := of_decide_eq_false hb.symm
      rw [if_neg (by omega), sides_eq s (hf n) i (acc ++ [false]) hs (by omega) (by rw [List.length_append, List.length_singleton]; omega), List.append_assoc]
      rfl
theorem steps_eq : ∀ (s : List Bool) (n i : Nat), Sd s n i → n ≤ 600 → s.length ≤ 1000 → bitloftref41_steps.f (s.length + 13) (n : Int) (i : Int) = some (s.length : Int)
  | [], n, i, h, hn, hl => by
    obtain ⟨rfl, rfl⟩ := h
    show bitloftref41_steps.f (12 + 1) _ _ = _
    rw [bitloftref41_steps.f, if_pos (by rfl)]
    rfl
  | b :: s, n, i, h, hn, hl => by
    obtain ⟨h2, hi, hb, hs⟩ := h
    have hf2 := hf_all n (by omega) h2
    rw [List.length_cons] at hl
    rw [List.length_cons, show s.length + 1 + 13 = (s.length + 13) + 1 by omega, bitloftref41_steps.f, if_neg (by omega), Half_at _ n (by omega) h2 hn]
    simp only [Option.bind_some]
    cases b with
    | true =>
      have hb' : hf n ≤ i := of_decide_eq_true hb.symm
      rw [if_neg (by omega), show wrap64 ((n : Int) - (hf n : Int)) = ((n - hf n : Nat) : Int) by unfold wrap64; omega, show wrap64 ((i : Int) - (hf n : Int)) = ((i - hf n : Nat) : Int) by unfold wrap64; omega, steps_eq s (n - hf n) (i - hf n) hs (by omega) (by omega)]
      simp only [Option.bind_some, Option.some.injEq]
      unfold wrap64
      omega
    | false =>
      have hb' : ¬ hf n ≤ i := of_decide_eq_false hb.symm
      rw [if_pos (by omega), steps_eq s (hf n) i hs (by omega) (by omega)]
      simp only [Option.bind_some, Option.some.injEq]
      unfold wrap64
      omega
end Go.Proofs.YtbldecdipicddaaDoor.Hand
