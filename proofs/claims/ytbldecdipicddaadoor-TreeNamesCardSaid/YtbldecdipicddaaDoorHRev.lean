/- slices.Reverse of a row of bools. Written by wip/s1/mkrev.py. -/
import Derived.Test.YtbldecdipicddaaDoorRowForm
set_option linter.unusedSimpArgs false
set_option linter.unusedVariables false
namespace Go.Proofs.YtbldecdipicddaaDoor.Hand
open Go Go.RowKit Go.Proofs.YtbldecdipicddaaDoorW.PrintWords Go.Proofs.YtbldecdipicddaaDoorW.PrintLast
/-- Only block g has changed. -/
def KeepOut (g : Nat) (w w' : World) : Prop := (∀ w0 : World, w0.heap.size ≤ g → Below w0.heap.size w0 w → Below w0.heap.size w0 w') ∧ (∀ (g' t : Nat) (cs : Array Value), g' ≠ g → w.heap[g']? = some (.cells cs t (0, 0)) → w'.heap[g']? = some (.cells cs t (0, 0)))
theorem KeepOut.refl (g : Nat) (w : World) : KeepOut g w w := ⟨fun _ _ h => h, fun _ _ _ _ h => h⟩
theorem KeepOut.drew {g : Nat} {w w' : World} (h : KeepOut g w w') : KeepOut g w w'.drew := ⟨fun w0 hg hb => below_drew (h.1 w0 hg hb), fun g' t cs hne hh => blk_drew (h.2 g' t cs hne hh)⟩
theorem KeepOut.set {g : Nat} {w w' : World} (h : KeepOut g w w') (j : Nat) (v : Value) : KeepOut g w (w'.setCell ⟨g, j, none⟩ v) := ⟨fun w0 hg hb => below_set (h.1 w0 hg hb) hg, fun g' t cs hne hh => blk_far (h.2 g' t cs hne hh) hne v⟩
/-- The cells behind so many swaps. -/
def Rvd (bs : List Bool) (n a b : Nat) (cur : Array Value) : Prop := ∀ j, j < n → cur[j]? = some (.bool (if j < a ∨ b < j then bs.getD (n - 1 - j) false else bs.getD j false))
theorem Rvd.swap {bs : List Bool} {n a b : Nat} {cur : Array Value} (h : Rvd bs n a b cur) (hab : a < b) (hn : a + b + 1 = n) : Rvd bs n (a + 1) (b - 1) ((cur.setIfInBounds a (.bool (bs.getD b false))).setIfInBounds b (.bool (bs.getD a false))) := by
  intro j hj
  have hs : n ≤ cur.size := by
    have := h (n - 1) (by omega)
    have := (Array.getElem?_eq_some_iff.1 this).1
    omega
  rw [Array.getElem?_setIfInBounds]
  by_cases h1 : b = j
  · subst h1
    rw [if_pos rfl, if_pos (by rw [Array.size_setIfInBounds]; omega), if_pos (by omega), show n - 1 - b = a by omega]
  · rw [if_neg h1, Array.getElem?_setIfInBounds]
    by_cases h2 : a = j
    · subst h2
      rw [if_pos rfl, if_pos (by omega), if_pos (by omega), show n - 1 - a = b by omega]
    · rw [if_neg h2, h j hj]
      by_cases h3 : j < a ∨ b < j
      · rw [if_pos h3, if_pos (by omega)]
      · rw [if_neg h3, if_neg (by omega)]
theorem Rvd.done {bs : List Bool} {n a b : Nat} {cur : Array Value} (h : Rvd bs n a b cur) (hab : ¬ a < b) (hn : a + b + 1 = n) : ∀ j, j < n → cur[j]? = some (.bool (bs.getD (n - 1 - j) false)) := by
  intro j hj
  rw [h j hj]
  by_cases h1 : j < a ∨ b < j
  · rw [if_pos h1]
  · rw [if_neg h1, show n - 1 - j = j by omega]
theorem Rvd.at_a {bs : List Bool} {n a b : Nat} {cur : Array Value} (h : Rvd bs n a b cur) (hab : a < b) (hn : a + b + 1 = n) : cur[a]? = some (.bool (bs.getD a false)) := by rw [h a (by omega), if_neg (by omega)]
theorem Rvd.at_b {bs : List Bool} {n a b : Nat} {cur : Array Value} (h : Rvd bs n a b cur) (hab : a < b) (hn : a + b + 1 = n) : cur[b]? = some (.bool (bs.getD b false)) := by rw [h b (by omega), if_neg (by omega)]
theorem Rvd.at_b2 {bs : List Bool} {n a b : Nat} {cur : Array Value} (h : Rvd bs n a b cur) (hab : a < b) (hn : a + b + 1 = n) (v : Value) : (cur.setIfInBounds a v)[b]? = some (.bool (bs.getD b false)) := by rw [Array.getElem?_setIfInBounds, if_neg (by omega)]; exact h.at_b hab hn
set_option maxHeartbeats 800000 in
set_option maxRecDepth 100000 in
theorem rev_walk (g n cap : Nat) (cur : Array Value) (bs : List Bool) (w : World) (hb : w.heap[g]? = some (.cells cur 4 (0, 0))) (hl : bs.length = n) (hn : 0 < n ∧ n < 1000) (hc : ∀ j, j < n → cur[j]? = some (.bool (bs.getD j false))) :
    Calls Tryd.prog 77 #[.slice (some ⟨g, 0, none⟩) n cap] w fun e w' => e = .returned (.tuple #[]) ∧ (∃ cu : Array Value, w'.heap[g]? = some (.cells cu 4 (0, 0)) ∧ ∀ j, j < n → cu[j]? = some (.bool (bs.getD (n - 1 - j) false))) ∧ KeepOut g w w' := by
  have HH := Aside0.mk hb
  have HC := Aside0.mk hc
  have HL := Aside0.mk (And.intro hl hn)
  have e0 : wrap64 ((n : Int) - 1) = ((n - 1 : Nat) : Int) := by unfold wrap64; omega
  obtain ⟨b0, hb0⟩ : ∃ b : Nat, b = n - 1 := ⟨_, rfl⟩
  rw [← hb0] at e0
  have HB0 := Aside0.mk hb0
  clear hb hc hl hn hb0
  go_enter Tryd.func77, Tryd.ntmps77
  go_wp2_with fail
  go_loopg [2, 3] n (fun k v2 v3 w' => ∃ (a b : Nat) (cu : Array Value), v2 = .int .i64 (a : Int) ∧ v3 = .int .i64 (b : Int) ∧ Aside0 (a + k = n) ∧ Aside0 (a + b + 1 = n) ∧ Aside0 (Rvd bs n a b cu) ∧ Aside0 (w'.heap[g]? = some (.cells cu 4 (0, 0))) ∧ Aside0 (KeepOut g w w'))
  case atStart => exact ⟨0, b0, cur, rfl, (by rw [e0]), ⟨by omega⟩, ⟨by have := HB0.out; have := HL.out; omega⟩, ⟨fun j hj => by rw [if_neg (by have := HB0.out; omega)]; exact HC.out j hj⟩, HH, ⟨KeepOut.refl _ _⟩⟩
  case round =>
    clear HH HC e0
    obtain ⟨a, b, cu, rfl, rfl, HK, HN, HR, HH, HO⟩ := hrel
    by_cases hab : a < b
    · obtain ⟨go, rfl⟩ : ∃ j, gk = j + 1 := ⟨gk - 1, by have := HK.out; have := HN.out; omega⟩
      have hN := HN.out
      have hL := HL.out
      have t1 : ((a : Int) < (b : Int)) = True := eq_true (by omega)
      have t2 : (a < b) = True := eq_true hab
      have t3 : (0 ≤ (a : Int)) = True := eq_true (by omega)
      have t4 : (0 ≤ (b : Int)) = True := eq_true (by omega)
      have t5 : ((a : Int) < (n : Int)) = True := eq_true (by omega)
      have t6 : ((b : Int) < (n : Int)) = True := eq_true (by omega)
      have t7 : (a < n) = True := eq_true (by omega)
      have t8 : (b < n) = True := eq_true (by omega)
      have u1 : wrap64 ((a : Int) + 1) = ((a + 1 : Nat) : Int) := by unfold wrap64; omega
      have u2 : wrap64 ((b : Int) - 1) = ((b - 1 : Nat) : Int) := by unfold wrap64; omega
      have HAB := Aside0.mk hab
      obtain ⟨fa, hfa⟩ : ∃ f, f = bs.getD a false := ⟨_, rfl⟩
      obtain ⟨fb, hfb⟩ : ∃ f, f = bs.getD b false := ⟨_, rfl⟩
      have HFA := Aside0.mk hfa
      have HFB := Aside0.mk hfb
      obtain ⟨a2, ha2⟩ : ∃ x : Nat, x = a + 1 := ⟨_, rfl⟩
      obtain ⟨b2, hb2⟩ : ∃ x : Nat, x = b - 1 := ⟨_, rfl⟩
      rw [← ha2] at u1
      rw [← hb2] at u2
      have HA2 := Aside0.mk (And.intro ha2 hb2)
      clear hN hL hab hfa hfb ha2 hb2
      go_wp2_with fail
      have H5 := Aside0.mk (blk_drew HH.out)
      have O5 := Aside0.mk HO.out.drew
      clear HH HO
      refine start_ (n := 16) (S := fun w' => w'.cell? ⟨g, a, none⟩ = some (.bool fa) ∧ w'.cell? ⟨g, b, none⟩ = some (.bool fb)) (ds := [13, 15]) #[false, false, false, false, false, false, false, false, false, false, false, false, false, false, false, false] (by kernel_rfl) rfl rfl ⟨(HFA.out ▸ (blk_cell H5.out a).trans (HR.out.at_a HAB.out HN.out)), (HFB.out ▸ (blk_cell H5.out b).trans (HR.out.at_b HAB.out HN.out))⟩ (fun hHeld => ?_)
      generalize World.drew wr = w5 at H5 O5 hHeld ⊢
      refine pure_ (i := 0) (N := some 14) (v := ?_) (a' := ?_) #[true, false, false, false, false, false, false, false, false, false, false, false, false, false, false, false] rfl rfl (by kernel_rfl) (fun _ _ _ h => h) (Or.inl ⟨by rfl, ?_⟩) ?_ ?_
      rotate_left
      · intro w'
        go_simp
        with_reducible rfl
      rotate_left
      · simp only [Act.put, List.setIfInBounds_toArray, List.set_cons_zero, List.set_cons_succ, i64_w, i32_w]
        rfl
      refine pure_ (i := 1) (N := some 15) (v := ?_) (a' := ?_) #[true, true, false, false, false, false, false, false, false, false, false, false, false, false, false, false] rfl rfl (by kernel_rfl) (fun _ _ _ h => h) (Or.inl ⟨by rfl, ?_⟩) ?_ ?_
      rotate_left
      · intro w'
        go_simp
        with_reducible rfl
      rotate_left
      · simp only [Act.put, List.setIfInBounds_toArray, List.set_cons_zero, List.set_cons_succ, i64_w, i32_w]
        rfl
      refine pure_ (i := 2) (N := some 16) (v := ?_) (a' := ?_) #[true, true, true, false, false, false, false, false, false, false, false, false, false, false, false, false] rfl rfl (by kernel_rfl) (fun _ _ _ h => h) (Or.inl ⟨by rfl, ?_⟩) ?_ ?_
      rotate_left
      · intro w'
        go_simp
        with_reducible rfl
      rotate_left
      · simp only [Act.put, List.setIfInBounds_toArray, List.set_cons_zero, List.set_cons_succ, i64_w, i32_w]
        rfl
      refine pure_ (i := 3) (N := some 17) (v := ?_) (a' := ?_) #[true, true, true, true, false, false, false, false, false, false, false, false, false, false, false, false] rfl rfl (by kernel_rfl) (fun _ _ _ h => h) (Or.inl ⟨by rfl, ?_⟩) ?_ ?_
      rotate_left
      · intro w'
        go_simp
        with_reducible rfl
      rotate_left
      · simp only [Act.put, List.setIfInBounds_toArray, List.set_cons_zero, List.set_cons_succ, i64_w, i32_w]
        rfl
      refine pure_ (i := 4) (N := some 18) (v := ?_) (a' := ?_) #[true, true, true, true, true, false, false, false, false, false, false, false, false, false, false, false] rfl rfl (by kernel_rfl) (fun _ _ _ h => h) (Or.inl ⟨by rfl, ?_⟩) ?_ ?_
      rotate_left
      · intro w'
        go_simp
        with_reducible rfl
      rotate_left
      · simp only [Act.put, List.setIfInBounds_toArray, List.set_cons_zero, List.set_cons_succ, i64_w, i32_w]
        rfl
      refine pure_ (i := 5) (N := some 19) (v := ?_) (a' := ?_) #[true, true, true, true, true, true, false, false, false, false, false, false, false, false, false, false] rfl rfl (by kernel_rfl) (fun _ _ _ h => h) (Or.inl ⟨by rfl, ?_⟩) ?_ ?_
      rotate_left
      · intro w'
        go_simp
        with_reducible rfl
      rotate_left
      · simp only [Act.put, List.setIfInBounds_toArray, List.set_cons_zero, List.set_cons_succ, i64_w, i32_w]
        rfl
      refine pure_ (i := 6) (N := some 20) (v := ?_) (a' := ?_) #[true, true, true, true, true, true, true, false, false, false, false, false, false, false, false, false] rfl rfl (by kernel_rfl) (fun _ _ _ h => h) (Or.inl ⟨by rfl, ?_⟩) ?_ ?_
      rotate_left
      · intro w'
        go_simp
        with_reducible rfl
      rotate_left
      · simp only [Act.put, List.setIfInBounds_toArray, List.set_cons_zero, List.set_cons_succ, i64_w, i32_w]
        rfl
      refine pure_ (i := 8) (N := some 22) (v := ?_) (a' := ?_) #[true, true, true, true, true, true, true, false, true, false, false, false, false, false, false, false] rfl rfl (by kernel_rfl) (fun _ _ _ h => h) (Or.inl ⟨by rfl, ?_⟩) ?_ ?_
      rotate_left
      · intro w'
        go_simp
        with_reducible rfl
      rotate_left
      · simp only [Act.put, List.setIfInBounds_toArray, List.set_cons_zero, List.set_cons_succ, i64_w, i32_w]
        rfl
      refine pure_ (i := 9) (N := some 23) (v := ?_) (a' := ?_) #[true, true, true, true, true, true, true, false, true, true, false, false, false, false, false, false] rfl rfl (by kernel_rfl) (fun _ _ _ h => h) (Or.inl ⟨by rfl, ?_⟩) ?_ ?_
      rotate_left
      · intro w'
        go_simp
        with_reducible rfl
      rotate_left
      · simp only [Act.put, List.setIfInBounds_toArray, List.set_cons_zero, List.set_cons_succ, i64_w, i32_w]
        rfl
      refine pure_ (i := 10) (N := some 24) (v := ?_) (a' := ?_) #[true, true, true, true, true, true, true, false, true, true, true, false, false, false, false, false] rfl rfl (by kernel_rfl) (fun _ _ _ h => h) (Or.inl ⟨by rfl, ?_⟩) ?_ ?_
      rotate_left
      · intro w'
        go_simp
        with_reducible rfl
      rotate_left
      · simp only [Act.put, List.setIfInBounds_toArray, List.set_cons_zero, List.set_cons_succ, i64_w, i32_w]
        rfl
      refine take_ (i := 7) (N := some 21) (v := ?_) (a' := ?_) #[true, true, true, true, true, true, true, true, true, true, true, false, false, false, false, false] rfl rfl (by kernel_rfl) (fun _ _ _ h => h) (Or.inl ⟨by rfl, ?_⟩) hHeld ?_ ?_
      rotate_left
      · rintro w' ⟨s0, s1⟩
        go_simp
        with_reducible rfl
      rotate_left
      · simp only [Act.put, List.setIfInBounds_toArray, List.set_cons_zero, List.set_cons_succ, i64_w, i32_w]
        rfl
      refine take_ (i := 11) (N := some 25) (v := ?_) (a' := ?_) #[true, true, true, true, true, true, true, true, true, true, true, true, false, false, false, false] rfl rfl (by kernel_rfl) (fun _ _ _ h => h) (Or.inl ⟨by rfl, ?_⟩) hHeld ?_ ?_
      rotate_left
      · rintro w' ⟨s0, s1⟩
        go_simp
        with_reducible rfl
      rotate_left
      · simp only [Act.put, List.setIfInBounds_toArray, List.set_cons_zero, List.set_cons_succ, i64_w, i32_w]
        rfl
      refine pure_ (i := 12) (N := some 26) (v := ?_) (a' := ?_) #[true, true, true, true, true, true, true, true, true, true, true, true, true, false, false, false] rfl rfl (by kernel_rfl) (fun _ _ _ h => h) (Or.inl ⟨by rfl, ?_⟩) ?_ ?_
      rotate_left
      · intro w'
        go_simp
        with_reducible rfl
      rotate_left
      · simp only [Act.put, List.setIfInBounds_toArray, List.set_cons_zero, List.set_cons_succ, i64_w, i32_w]
        rfl
      refine last_ (i := 13) (N := none) #[true, true, true, true, true, true, true, true, true, true, true, true, true, true, false, false] rfl rfl (by kernel_rfl) (by decide) (fun K hK => ?_)
      have hb := ((blk_cell H5.out a).trans (HR.out.at_a HAB.out HN.out))
      have hf := blk_frozen H5.out a
      clear hHeld
      refine skip_ (w1 := ?_) (by rfl) rfl ?_ ?_
      rotate_left
      · go_simp
        rfl
      have H6 := Aside0.mk (blk_set H5.out a (.bool fb))
      have O6 := Aside0.mk (O5.out.set a (.bool fb))
      clear H5 O5 hb hf
      generalize World.setCell w5 ⟨g, a, none⟩ (.bool fb) = w6 at H6 O6 ⊢
      refine hK.out _ _ ?_
      clear hK K
      refine pure_ (i := 14) (N := some 27) (v := ?_) (a' := ?_) #[true, true, true, true, true, true, true, true, true, true, true, true, true, true, true, false] rfl rfl (by kernel_rfl) (fun _ _ _ h => h) (Or.inl ⟨by rfl, ?_⟩) ?_ ?_
      rotate_left
      · intro w'
        go_simp
        with_reducible rfl
      rotate_left
      · simp only [Act.put, List.setIfInBounds_toArray, List.set_cons_zero, List.set_cons_succ, i64_w, i32_w]
        rfl
      refine last_ (i := 15) (N := none) #[true, true, true, true, true, true, true, true, true, true, true, true, true, true, true, true] rfl rfl (by kernel_rfl) (by decide) (fun K hK => ?_)
      have hb := ((blk_cell H6.out b).trans (HR.out.at_b2 HAB.out HN.out (.bool fb)))
      have hf := blk_frozen H6.out b
      refine skip_ (w1 := ?_) (by rfl) rfl ?_ ?_
      rotate_left
      · go_simp
        rfl
      have H7 := Aside0.mk (blk_set H6.out b (.bool fa))
      have O7 := Aside0.mk (O6.out.set b (.bool fa))
      clear H6 O6 hb hf
      generalize World.setCell w6 ⟨g, b, none⟩ (.bool fa) = w7 at H7 O7 ⊢
      refine hK.out _ _ ?_
      clear hK K
      refine done_ (by kernel_rfl) ?_
      go_wp2_with fail
      go_roundg go
      case measure => have := HK.out; omega
      case rel => exact ⟨a2, b2, _, (by first | rfl | rw [u1]), (by first | rfl | rw [u2]), ⟨by have := HK.out; have := HA2.out; omega⟩, ⟨by have := HN.out; have := HA2.out; have := HAB.out; omega⟩, ⟨by rw [HA2.out.1, HA2.out.2, HFA.out, HFB.out]; exact HR.out.swap HAB.out HN.out⟩, H7, O7⟩
    · have t1 : ((a : Int) < (b : Int)) = False := eq_false (by omega)
      have t2 : (a < b) = False := eq_false hab
      have HAB := Aside0.mk hab
      clear hab
      go_wp2_with fail
      go_end0
      exact ⟨rfl, ⟨cu, HH.out, HR.out.done HAB.out HN.out⟩, HO.out⟩
set_option maxRecDepth 100000 in
theorem rev_nil (A : Option Addr) (c : Nat) (w : World) : Calls Tryd.prog 77 #[.slice A 0 c] w fun e w' => e = .returned (.tuple #[]) ∧ w' = w := by
  go_enter Tryd.func77, Tryd.ntmps77
  have e0 : wrap64 (0 - 1) = -1 := by unfold wrap64; omega
  go_wp2_with fail
  go_loopg [2, 3] 1 (fun k v2 v3 w' => v2 = .int .i64 0 ∧ v3 = .int .i64 (-1) ∧ Aside0 (w' = w))
  case atStart => exact ⟨rfl, (by first | rfl | (simp [e0]; done) | (congr 1; unfold wrap64; omega)), ⟨rfl⟩⟩
  case round =>
    obtain ⟨rfl, rfl, HW⟩ := hrel
    go_wp2_with fail
    go_end0
    exact ⟨rfl, HW.out⟩
end Go.Proofs.YtbldecdipicddaaDoor.Hand
