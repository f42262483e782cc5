/- Plain facts of trees: the root by halves, going up by what lies beside a way, how long ways are. -/
import Derived.Test.YtbldecdipicddaaDoorLRoot
import Derived.Test.YtbldecdipicddaaDoorHProve
set_option linter.unusedSimpArgs false
set_option linter.unusedVariables false
namespace Go.Proofs.YtbldecdipicddaaDoor.Hand
open Go Go.RowKit Go.Proofs.YtbldecdipicddaaDoorW.PrintWords Go.Proofs.YtbldecdipicddaaDoor.QZ
theorem drewn_bel {e : Ending} {w w' : World} {v : Value} (h : e = .returned v ∧ Drawn0 w w') : e = .returned v ∧ Below w.heap.size w w' := ⟨h.1, by obtain ⟨m, hm⟩ := h.2; rw [hm]; exact pw_below_drewN (Below.refl _ _) m⟩
theorem rootg_fuel : ∀ (k k' : Nat) (l : List Dg), l.length ≤ k → l.length ≤ k' → l.length ≤ 600 → rootg k l = rootg k' l
  | 0, 0, _, _, _, _ => rfl
  | 0, k' + 1, l, h, _, _ => by rw [rootg, rootg, if_pos (by omega)]
  | k + 1, 0, l, _, h, _ => by rw [rootg, rootg, if_pos (by omega)]
  | k + 1, k' + 1, l, h, h', hl => by
    by_cases h0 : l.length = 0
    · rw [rootg, rootg, if_pos h0, if_pos h0]
    by_cases h1 : l.length = 1
    · rw [rootg, rootg, if_neg h0, if_pos h1, if_neg h0, if_pos h1]
    have h2 := hf_all l.length (by omega) (by omega)
    have ht : (l.take (hf l.length)).length = hf l.length := by rw [List.length_take, Nat.min_eq_left (by omega)]
    have hd : (l.drop (hf l.length)).length = l.length - hf l.length := List.length_drop
    rw [rootg, rootg, if_neg h0, if_neg h1, if_neg h0, if_neg h1, rootg_fuel k k' (l.take _) (by omega) (by omega) (by omega), rootg_fuel k k' (l.drop _) (by omega) (by omega) (by omega)]
theorem rootg_two (l : List Dg) (h : 2 ≤ l.length) (hl : l.length ≤ 600) : rootg 600 l = ndg (rootg 600 (l.take (hf l.length))) (rootg 600 (l.drop (hf l.length))) := by
  have h2 := hf_all l.length (by omega) (by omega)
  have ht : (l.take (hf l.length)).length = hf l.length := by rw [List.length_take, Nat.min_eq_left (by omega)]
  have hd : (l.drop (hf l.length)).length = l.length - hf l.length := List.length_drop
  rw [rootg_fuel 600 601 l hl (by omega) hl, rootg, if_neg (by omega), if_neg (by omega)]
theorem rootg_one (l : List Dg) (h : l.length = 1) : rootg 600 l = l.getD 0 zdg := by
  rw [rootg_fuel 600 601 l (by omega) (by omega) (by omega), rootg, if_neg (by omega), if_pos h]
/-- Going up: sides and digests from the root down. -/
def goup : List Bool → List Dg → Dg → Dg
  | b :: s, p :: l, d => if b then ndg p (goup s l d) else ndg (goup s l d) p
  | _, _, d => d
theorem pwr_fuel (rt : List Dg → Dg) : ∀ (k k' : Nat) (l : List Dg) (i : Nat), l.length ≤ k → l.length ≤ k' → l.length ≤ 600 → pwr rt k l i = pwr rt k' l i
  | 0, k', l, i, h, _, _ => by rw [pwr_end rt 0 l i (by omega), pwr_end rt k' l i (by omega)]
  | k + 1, 0, l, i, _, h, _ => by rw [pwr_end rt 0 l i (by omega), pwr_end rt (k + 1) l i (by omega)]
  | k + 1, k' + 1, l, i, h, h', hl => by
    by_cases h1 : l.length ≤ 1
    · rw [pwr_end rt _ l i h1, pwr_end rt _ l i h1]
    have h2 := hf_all l.length (by omega) (by omega)
    have ht : (l.take (hf l.length)).length = hf l.length := by rw [List.length_take, Nat.min_eq_left (by omega)]
    have hd : (l.drop (hf l.length)).length = l.length - hf l.length := List.length_drop
    by_cases hi : hf l.length ≤ i
    · rw [pwr_right rt k l i (by omega) hi, pwr_right rt k' l i (by omega) hi, pwr_fuel rt k k' _ _ (by omega) (by omega) (by omega)]
    · rw [pwr_left rt k l i (by omega) hi, pwr_left rt k' l i (by omega) hi, pwr_fuel rt k k' _ _ (by omega) (by omega) (by omega)]
theorem pwr_r (rt : List Dg → Dg) (l : List Dg) (i : Nat) (h : 1 < l.length) (hl : l.length ≤ 600) (hi : hf l.length ≤ i) : pwr rt 600 l i = rt (l.take (hf l.length)) :: pwr rt 600 (l.drop (hf l.length)) (i - hf l.length) := by
  rw [pwr_fuel rt 600 601 l i hl (by omega) hl, pwr_right rt 600 l i h hi]
theorem pwr_l (rt : List Dg → Dg) (l : List Dg) (i : Nat) (h : 1 < l.length) (hl : l.length ≤ 600) (hi : ¬ hf l.length ≤ i) : pwr rt 600 l i = rt (l.drop (hf l.length)) :: pwr rt 600 (l.take (hf l.length)) i := by
  rw [pwr_fuel rt 600 601 l i hl (by omega) hl, pwr_left rt 600 l i h hi]
theorem pwr_sd (rt : List Dg → Dg) : ∀ (s : List Bool) (n i : Nat) (l : List Dg) (k : Nat), Sd s n i → l.length = n → n ≤ 600 → n ≤ k → (pwr rt k l i).length = s.length
  | [], n, i, l, k, h, hl, hn, hk => by
    obtain ⟨rfl, rfl⟩ := h
    rw [pwr_end rt k l 0 (by omega)]
    rfl
  | b :: s, n, i, l, 0, h, hl, hn, hk => by
    obtain ⟨h2, _⟩ := h
    omega
  | b :: s, n, i, l, k + 1, h, hl, hn, hk => by
    obtain ⟨h2, hi, hb, hs⟩ := h
    subst hl
    have hF := hf_all l.length (by omega) h2
    cases b with
    | true =>
      have hb' : hf l.length ≤ i := of_decide_eq_true hb.symm
      rw [pwr_right rt k l i (by omega) hb', List.length_cons, List.length_cons, pwr_sd rt s (l.length - hf l.length) (i - hf l.length) (l.drop (hf l.length)) k hs List.length_drop (by omega) (by omega)]
    | false =>
      have hb' : ¬ hf l.length ≤ i := of_decide_eq_false hb.symm
      rw [pwr_left rt k l i (by omega) hb', List.length_cons, List.length_cons, pwr_sd rt s (hf l.length) i (l.take (hf l.length)) k hs (by rw [List.length_take, Nat.min_eq_left (by omega)]) (by omega) (by omega)]
theorem pwr_set (rt : List Dg → Dg) (x : Dg) : ∀ (k : Nat) (l : List Dg) (i : Nat), l.length ≤ 600 → pwr rt k (l.set i x) i = pwr rt k l i
  | 0, l, i, h => rfl
  | k + 1, l, i, h => by
    by_cases h1 : l.length ≤ 1
    · rw [pwr_end rt _ l i h1, pwr_end rt _ _ i (by rw [List.length_set]; exact h1)]
    have hF := hf_all l.length (by omega) (by omega)
    by_cases hi : hf l.length ≤ i
    · rw [pwr_right rt k l i (by omega) hi, pwr_right rt k (l.set i x) i (by rw [List.length_set]; omega) (by rw [List.length_set]; exact hi), List.length_set, List.take_set, List.set_eq_of_length_le (by rw [List.length_take]; omega), List.drop_set, if_neg (by omega), pwr_set rt x k (l.drop (hf l.length)) (i - hf l.length) (by rw [List.length_drop]; omega)]
    · rw [pwr_left rt k l i (by omega) hi, pwr_left rt k (l.set i x) i (by rw [List.length_set]; omega) (by rw [List.length_set]; exact hi), List.length_set, List.drop_set, if_pos (by omega), List.take_set, pwr_set rt x k (l.take (hf l.length)) i (by rw [List.length_take]; omega)]
theorem goup_root (x : Dg) : ∀ (s : List Bool) (n i : Nat) (l : List Dg) (k : Nat), Sd s n i → l.length = n → n ≤ 600 → n ≤ k → goup s (pwr (rootg 600) k l i) x = rootg 600 (l.set i x)
  | [], n, i, l, k, h, hl, hn, hk => by
    obtain ⟨rfl, rfl⟩ := h
    rw [pwr_end _ k l 0 (by omega), rootg_one (l.set 0 x) (by rw [List.length_set]; exact hl)]
    match l, hl with
    | [y], _ => rfl
  | b :: s, n, i, l, 0, h, hl, hn, hk => by
    obtain ⟨h2, _⟩ := h
    omega
  | b :: s, n, i, l, k + 1, h, hl, hn, hk => by
    obtain ⟨h2, hi, hb, hs⟩ := h
    subst hl
    have hF := hf_all l.length (by omega) h2
    rw [rootg_two (l.set i x) (by rw [List.length_set]; exact h2) (by rw [List.length_set]; exact hn), List.length_set, List.take_set, List.drop_set]
    cases b with
    | true =>
      have hb' : hf l.length ≤ i := of_decide_eq_true hb.symm
      rw [pwr_right _ k l i (by omega) hb', List.set_eq_of_length_le (by rw [List.length_take]; omega), if_neg (by omega), ← goup_root x s (l.length - hf l.length) (i - hf l.length) (l.drop (hf l.length)) k hs List.length_drop (by omega) (by omega)]
      rfl
    | false =>
      have hb' : ¬ hf l.length ≤ i := of_decide_eq_false hb.symm
      rw [pwr_left _ k l i (by omega) hb', if_pos (by omega), ← goup_root x s (hf l.length) i (l.take (hf l.length)) k hs (by rw [List.length_take, Nat.min_eq_left (by omega)]) (by omega) (by omega)]
      rfl
/-- How many digits a number has to the base 2 (k: enough). -/
def dgn : Nat → Nat → Nat
  | 0, _ => 0
  | k + 1, m => if m = 0 then 0 else 1 + dgn k (m / 2)
/-- How long the way to the last of n is. -/
def lst : Nat → Nat → Nat
  | 0, _ => 0
  | k + 1, n => if n ≤ 1 then 0 else 1 + lst k (n - hf n)
set_option maxRecDepth 100000 in
theorem dgn_all : ∀ n : Nat, n < 601 → 2 ≤ n → dgn 20 (n - 1) = 1 + dgn 20 (hf n - 1) ∧ dgn 20 (n - hf n - 1) ≤ dgn 20 (hf n - 1) ∧ lst 20 (n - hf n) ≤ lst 20 (hf n) ∧ lst 20 n = 1 + lst 20 (n - hf n) := by decide +kernel
theorem sd_le : ∀ (s : List Bool) (n i : Nat), Sd s n i → n ≤ 600 → s.length ≤ dgn 20 (n - 1)
  | [], n, i, h, hn => Nat.zero_le _
  | b :: s, n, i, h, hn => by
    obtain ⟨h2, hi, hb, hs⟩ := h
    have hF := hf_all n (by omega) h2
    have hD := dgn_all n (by omega) h2
    rw [List.length_cons]
    cases b with
    | true =>
      have := sd_le s (n - hf n) (i - hf n) hs (by omega)
      omega
    | false =>
      have := sd_le s (hf n) i hs (by omega)
      omega
theorem sd_ge : ∀ (s : List Bool) (n i : Nat), Sd s n i → n ≤ 600 → lst 20 n ≤ s.length
  | [], n, i, h, hn => by
    obtain ⟨rfl, _⟩ := h
    decide
  | b :: s, n, i, h, hn => by
    obtain ⟨h2, hi, hb, hs⟩ := h
    have hF := hf_all n (by omega) h2
    have hD := dgn_all n (by omega) h2
    rw [List.length_cons]
    cases b with
    | true =>
      have := sd_ge s (n - hf n) (i - hf n) hs (by omega)
      omega
    | false =>
      have := sd_ge s (hf n) i hs (by omega)
      omega
theorem sd_last : ∀ (s : List Bool) (n i : Nat), i = n - 1 → Sd s n i → n ≤ 600 → s.length = lst 20 n
  | [], n, i, hi1, h, hn => by
    obtain ⟨rfl, _⟩ := h
    decide
  | b :: s, n, i, hi1, h, hn => by
    obtain ⟨h2, hi, hb, hs⟩ := h
    have hF := hf_all n (by omega) h2
    have hD := dgn_all n (by omega) h2
    rw [List.length_cons]
    cases b with
    | true =>
      have := sd_last s (n - hf n) (i - hf n) (by omega) hs (by omega)
      omega
    | false =>
      have hb' : ¬ hf n ≤ i := of_decide_eq_false hb.symm
      omega
end Go.Proofs.YtbldecdipicddaaDoor.Hand
