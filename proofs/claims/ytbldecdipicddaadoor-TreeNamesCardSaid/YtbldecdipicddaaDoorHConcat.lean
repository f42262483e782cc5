/- slices.Grow of nil, and slices.Concat, at bytes. Written by wip/s1/mkconcat.py. -/
import Derived.Test.YtbldecdipicddaaDoorHAux
set_option linter.unusedSimpArgs false
set_option linter.unusedVariables false
namespace Go.Proofs.YtbldecdipicddaaDoor.Hand
open Go Go.RowKit Go.Proofs.YtbldecdipicddaaDoorW.PrintWords Go.Proofs.YtbldecdipicddaaDoorW.PrintLast
theorem rows_get {w : World} {ad : Addr} {n : Nat} {ll : List (List Int)} (h : Kd.C (Kd.slice 5 (Kd.int .u8)) w (some ad) n ll) (i : Nat) (hi : i < ll.length) : ∃ A c, w.cell? (ad.add i) = some (.slice A (ll.getD i []).length c) ∧ (ll.getD i []).length ≤ c ∧ Kd.C (Kd.int .u8) w A (ll.getD i []).length (ll.getD i []) := by
  obtain ⟨ad', e, hc⟩ := h.2.2 (by have := h.1; omega)
  cases e
  obtain ⟨c, hl, hp, hcell⟩ := hc i _ (List.getElem?_eq_getElem hi)
  obtain ⟨A, c', rfl, hle, hC⟩ := hp
  have e1 : ll.getD i [] = ll[i] := by rw [List.getD_eq_getElem?_getD, List.getElem?_eq_getElem hi]; rfl
  rw [e1]
  refine ⟨A, c', ?_, hle, hC⟩
  have := hcell 0 _ rfl
  rwa [show i * (Kd.slice 5 (Kd.int .u8)).sz + 0 = i by show i * 1 + 0 = i; omega] at this
def tot (ll : List (List Int)) : Nat → Nat
  | 0 => 0
  | i + 1 => tot ll i + (ll.getD i []).length
theorem tot_mono (ll : List (List Int)) : ∀ (i j : Nat), tot ll i ≤ tot ll (i + j)
  | i, 0 => Nat.le_refl _
  | i, j + 1 => Nat.le_trans (tot_mono ll i j) (by rw [← Nat.add_assoc, tot]; omega)
def cat (ll : List (List Int)) : Nat → List Int
  | 0 => []
  | i + 1 => cat ll i ++ ll.getD i []
theorem cat_length (ll : List (List Int)) : ∀ i, (cat ll i).length = tot ll i
  | 0 => rfl
  | i + 1 => by rw [cat, tot, List.length_append, cat_length ll i]
theorem cat_all : ∀ (ll : List (List Int)), cat ll ll.length = ll.flatten := by
  intro ll
  have h : ∀ i, i ≤ ll.length → cat ll i = (ll.take i).flatten := by
    intro i
    induction i with
    | zero => intro _; rfl
    | succ i ih =>
      intro hi
      rw [cat, ih (by omega), List.take_succ_eq_append_getElem (by omega), List.flatten_append]
      simp [List.getD_eq_getElem?_getD, List.getElem?_eq_getElem (show i < ll.length by omega)]
  rw [h ll.length (Nat.le_refl _), List.take_length]
set_option maxHeartbeats 1600000 in
set_option maxRecDepth 100000 in
theorem concat_calls (A : Option Addr) (c : Nat) (ll : List (List Int)) (w : World) (hr : Kd.C (Kd.slice 5 (Kd.int .u8)) w A ll.length ll) (hb : tot ll ll.length ≤ 1000000000)
    (hgrow : ∀ (W : World) (n : Nat), n ≤ 1000000000 → Calls Tryd.prog 98 #[.slice none 0 0, .int .i64 (n : Int)] W fun e w' => ∃ v0_ : Value, e = .returned v0_ ∧ Kd.R (Kd.int .u8) 5 w' W.heap.size (fun _ => True) v0_ [] ∧ Below W.heap.size W w') :
    Calls Tryd.prog 79 #[.slice A ll.length c] w fun e w' => ∃ v0_ : Value, e = .returned v0_ ∧ Kd.R (Kd.int .u8) 5 w' w.heap.size (fun _ => True) v0_ (cat ll ll.length) ∧ Below w.heap.size w w' := by
  have HR := Aside0.mk hr
  have HB := Aside0.mk hb
  have HG := Aside0.mk hgrow
  have hn := hr.2.1
  clear hr hb hgrow
  go_enter Tryd.func79, Tryd.ntmps79
  go_wp2_with fail
  go_loopg [3, 11] ll.length (fun n v3 v11 w' => ∃ (i : Nat), v11 = .int .i64 (i : Int) ∧ v3 = .int .i64 ((tot ll i : Nat) : Int) ∧ Aside0 (i + n = ll.length) ∧ w = w')
  case atStart => exact ⟨0, rfl, rfl, ⟨by omega⟩, rfl⟩
  case round =>
    obtain ⟨i, rfl, rfl, HK, rfl⟩ := hrel
    by_cases hk : i < ll.length
    · obtain ⟨go, rfl⟩ : ∃ j, gk = j + 1 := ⟨gk - 1, by have := HK.out; omega⟩
      have hi1 : ((i : Int) < ((ll.length : Nat) : Int)) = True := eq_true (by omega)
      have hi2 : (i < ll.length) = True := eq_true hk
      obtain ⟨ad, rfl, hx_⟩ : ∃ ad, A = some ad ∧ True := by obtain ⟨ad, e, _⟩ := HR.out.2.2 (by omega); exact ⟨ad, e, trivial⟩
      clear hx_
      obtain ⟨Ai, ci, hcell, hle_, hC_⟩ := rows_get HR.out i hk
      clear hle_ hC_
      have ht := HB.out
      have hm := tot_mono ll (i + 1) (ll.length - (i + 1))
      rw [show i + 1 + (ll.length - (i + 1)) = ll.length by omega] at hm
      have ht1 : tot ll i + (ll.getD i []).length ≤ 1000000000 := by rw [tot] at hm; omega
      have hs : tot ll (i + 1) = tot ll i + (ll.getD i []).length := rfl
      clear ht hm
      have HS := Aside0.mk hs
      clear hs
      generalize (ll.getD i []).length = li at *
      have h0 : ((tot ll i : Int) + (li : Int) < 0) = False := eq_false (by omega)
      go_wp2_with fail
      go_roundg go
      case measure => have := HK.out; omega
      case rel => exact ⟨i + 1, by go_num, congrArg (Value.int .i64) (by rw [HS.out]; omega), ⟨by have := HK.out; omega⟩, rfl⟩
    · obtain rfl : i = ll.length := by have := HK.out; omega
      have hi1 : (((ll.length : Nat) : Int) < ((ll.length : Nat) : Int)) = False := eq_false (by omega)
      go_wp2_with fail
      refine (HG.out w (tot ll ll.length) HB.out).mono ?_
      rintro e w1 ⟨v_, rfl, hR_, hb_⟩
      have HO := Aside0.mk hR_
      have BB := Aside0.mk hb_
      clear hR_ hb_ HK
      go_wp2_with fail
      go_loopg [6, 27] ll.length (fun n v6 v27 w' => ∃ (i : Nat), v27 = .int .i64 (i : Int) ∧ Aside0 (i + n = ll.length) ∧ Aside0 (Kd.R (Kd.int .u8) 5 w' w.heap.size (fun _ => True) v6 (cat ll i)) ∧ Aside0 (Below w.heap.size w w'))
      case atStart => exact ⟨0, rfl, ⟨by omega⟩, HO, BB⟩
      case round =>
        clear HO BB
        obtain ⟨i, rfl, HK, HO, BB⟩ := hrel
        by_cases hk : i < ll.length
        · obtain ⟨go, rfl⟩ : ∃ j, gk = j + 1 := ⟨gk - 1, by have := HK.out; omega⟩
          clear hi1
          have hi1 : ((i : Int) < ((ll.length : Nat) : Int)) = True := eq_true (by omega)
          have hi2 : (i < ll.length) = True := eq_true hk
          obtain ⟨ad, rfl, hx_⟩ : ∃ ad, A = some ad ∧ True := by obtain ⟨ad, e, _⟩ := HR.out.2.2 (by omega); exact ⟨ad, e, trivial⟩
          clear hx_
          obtain ⟨Ai, ci, hcell, hle_, hC_⟩ := rows_get (Kd.C_below HR.out BB.out) i hk
          clear hle_
          have hm := tot_mono ll (i + 1) (ll.length - (i + 1))
          rw [show i + 1 + (ll.length - (i + 1)) = ll.length by omega] at hm
          have ht1 : (cat ll i).length + (ll.getD i []).length ≤ 1000000000 := by have := HB.out; rw [tot] at hm; rw [cat_length]; omega
          clear hm
          obtain ⟨x, hx⟩ : ∃ x : List Int, x = ll.getD i [] := ⟨_, rfl⟩
          have HCT := Aside0.mk (show cat ll (i + 1) = cat ll i ++ x by rw [hx]; rfl)
          rw [← hx] at hcell hC_ ht1
          have HC := Aside0.mk hC_
          have HT1 := Aside0.mk ht1
          clear hx hC_ ht1
          go_wp2_with (first | ((with_reducible refine gate_builtin (b := .append) (xs := #[.tmp 31, .tmp 32]) rfl ?_); at_builtin; refine Kd.R_append_rows (Kd.int .u8) (w0 := w) w.heap.size rfl (.tmp 31) (.tmp 32) 26 5 (.int .u8 0) 1 rfl Tryd.underlying26 info5p rfl (by decide) (by omega) _ (cat ll i) x _ _ _ (fun _ => True) (fun _ => False) rfl rfl ?aO ?aR (fun _ _ h => h) (fun _ h => h.elim) ?aF ?aB ?aS ?aL ?_; (case aR => exact HC.out); (case aB => exact BB.out); (case aF => exact (fun _ _ => trivial)); (case aO => exact HO.out); (case aS => exact below_size BB.out); (case aL => have := HT1.out; omega); intro v4 w4 ho hb hg hat; have HO4 := Aside0.mk ho; have B4 := Aside0.mk hb; clear ho hb hg hat HO BB hcell))
          go_roundg go
          case measure => have := HK.out; omega
          case rel => exact ⟨i + 1, by go_num, ⟨by have := HK.out; omega⟩, ⟨by rw [HCT.out]; exact HO4.out⟩, B4⟩
        · obtain rfl : i = ll.length := by have := HK.out; omega
          go_wp2_with fail
          go_ret
          exact ⟨_, rfl, HO.out, BB.out⟩
set_option maxRecDepth 100000 in
theorem grow_calls (w : World) (n : Nat) (hn : n ≤ 1000000000) : Calls Tryd.prog 98 #[.slice none 0 0, .int .i64 (n : Int)] w fun e w' => ∃ v0_ : Value, e = .returned v0_ ∧ Kd.R (Kd.int .u8) 5 w' w.heap.size (fun _ => True) v0_ [] ∧ Below w.heap.size w w' := by
  have HN := Aside0.mk hn
  have h1 : ((n : Int) < 0) = False := eq_false (by omega)
  by_cases h0 : n = 0
  · subst h0
    clear h1 hn
    simp only [show ((0 : Nat) : Int) = 0 from rfl]
    go_enter Tryd.func98, Tryd.ntmps98
    go_wp2_with fail
    go_ret
    exact ⟨_, rfl, Kd.R_nil _ _ _ _ _, Below.refl _ _⟩
  · have h2 : (0 < (n : Int)) = True := eq_true (by omega)
    have h3 : decide (0 < (n : Int)) = true := decide_eq_true (by omega)
    have h4 : (0 < n) = True := eq_true (by omega)
    have h5 : (n = 0) = False := eq_false h0
    have h6 : wrap64 (n : Int) = (n : Int) := by unfold wrap64; omega
    have HN0 := Aside0.mk h0
    clear h0 hn
    go_enter Tryd.func98, Tryd.ntmps98
    go_wp2_with (first | ((with_reducible refine gate_builtin (b := .append) (xs := #[.tmp 20, .tmp 21]) rfl ?_); at_builtin; refine Kd.R_append_zeros (Kd.int .u8) (w0 := w) w.heap.size rfl (.tmp 20) (.tmp 21) 26 3 5 (.int .u8 0) 1 rfl Tryd.underlying26 Tryd.underlying3 info5p rfl (by decide) (by omega) (.slice none 0 0) [] 0 (wrap64 (n : Int)) (fun _ => True) rfl rfl rfl ?aF ?aO ?a0 ?aB ?aS ?aL ?_; (case aF => exact (fun _ _ => trivial)); (case aO => exact Kd.R_nil _ _ _ _ _); (case a0 => rw [h6]; omega); (case aB => exact (Below.refl _ _)); (case aS => exact Nat.le_refl _); (case aL => have := HN.out; rw [h6]; simp; omega); intro v4 w4 ho hb hg hat; obtain ⟨g, cap, rfl, hle_, hC_⟩ := row_form ho (n := n) (by rw [h6]; simp) (Nat.pos_of_ne_zero HN0.out); have HO4 := Aside0.mk ho; have B4 := Aside0.mk hb; clear ho hb hg hat hle_ hC_))
    go_ret
    exact ⟨_, rfl, Kd.R_take (m := 0) HO4.out (Nat.zero_le _), B4.out⟩
end Go.Proofs.YtbldecdipicddaaDoor.Hand
