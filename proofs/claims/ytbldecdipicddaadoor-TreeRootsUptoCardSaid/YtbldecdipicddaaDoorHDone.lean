/- The contract of the reference's Done. Written by wip/s1/mkdone.py. -/
import Derived.Test.YtbldecdipicddaaDoorHDo
set_option linter.unusedSimpArgs false
set_option linter.unusedVariables false
namespace Go.Proofs.YtbldecdipicddaaDoor.Hand
open Go Go.RowKit Go.Proofs.YtbldecdipicddaaDoorW.PrintWords Go.Proofs.YtbldecdipicddaaDoorW.PrintLast
theorem info41 : (Tryd.prog.info? 41).map (fun i => (i.zero, i.size, i.bytes)) = some (some (.int .u32 0), 1, 4) := by kernel_rfl
set_option maxRecDepth 100000 in
theorem turn1_calls (x : Int) (w : World) : Calls Tryd.prog 93 #[.int .u32 x, .int .i64 1] w fun e w' => e = .returned (.int .u32 (rot 1 x)) ∧ Below w.heap.size w w' := by
  have ew : wrap64 31 = 31 := by unfold wrap64; omega
  go_enter Tryd.func93, Tryd.ntmps93
  go_wp2_with fail
  refine start_ (n := 9) (S := fun w' => True) (ds := []) #[false, false, false, false, false, false, false, false, false] (by kernel_rfl) rfl rfl trivial (fun hHeld => ?_)
  refine pure_ (i := 0) (N := some 5) (v := ?_) (a' := ?_) #[true, false, false, false, false, false, false, false, false] rfl rfl (by kernel_rfl) (fun _ _ _ h => h) (Or.inl ⟨by rfl, ?_⟩) ?_ ?_
  rotate_left
  · intro w'
    go_simp
    with_reducible rfl
  rotate_left
  · simp only [Act.put, List.setIfInBounds_toArray, List.set_cons_zero, List.set_cons_succ, i64_w, i32_w]
    rfl
  refine pure_ (i := 1) (N := some 6) (v := ?_) (a' := ?_) #[true, true, false, false, false, false, false, false, false] rfl rfl (by kernel_rfl) (fun _ _ _ h => h) (Or.inl ⟨by rfl, ?_⟩) ?_ ?_
  rotate_left
  · intro w'
    go_simp
    with_reducible rfl
  rotate_left
  · simp only [Act.put, List.setIfInBounds_toArray, List.set_cons_zero, List.set_cons_succ, i64_w, i32_w]
    rfl
  refine pure_ (i := 2) (N := some 7) (v := ?_) (a' := ?_) #[true, true, true, false, false, false, false, false, false] rfl rfl (by kernel_rfl) (fun _ _ _ h => h) (Or.inl ⟨by rfl, ?_⟩) ?_ ?_
  rotate_left
  · intro w'
    go_simp
    with_reducible rfl
  rotate_left
  · simp only [Act.put, List.setIfInBounds_toArray, List.set_cons_zero, List.set_cons_succ, i64_w, i32_w]
    rfl
  refine pure_ (i := 3) (N := some 8) (v := ?_) (a' := ?_) #[true, true, true, true, false, false, false, false, false] rfl rfl (by kernel_rfl) (fun _ _ _ h => h) (Or.inl ⟨by rfl, ?_⟩) ?_ ?_
  rotate_left
  · intro w'
    go_simp
    with_reducible rfl
  rotate_left
  · simp only [Act.put, List.setIfInBounds_toArray, List.set_cons_zero, List.set_cons_succ, i64_w, i32_w]
    rfl
  refine pure_ (i := 4) (N := some 9) (v := ?_) (a' := ?_) #[true, true, true, true, true, false, false, false, false] rfl rfl (by kernel_rfl) (fun _ _ _ h => h) (Or.inl ⟨by rfl, ?_⟩) ?_ ?_
  rotate_left
  · intro w'
    go_simp
    with_reducible rfl
  rotate_left
  · simp only [Act.put, List.setIfInBounds_toArray, List.set_cons_zero, List.set_cons_succ, i64_w, i32_w]
    rfl
  refine pure_ (i := 5) (N := some 10) (v := ?_) (a' := ?_) #[true, true, true, true, true, true, false, false, false] rfl rfl (by kernel_rfl) (fun _ _ _ h => h) (Or.inl ⟨by rfl, ?_⟩) ?_ ?_
  rotate_left
  · intro w'
    go_simp
    with_reducible rfl
  rotate_left
  · simp only [Act.put, List.setIfInBounds_toArray, List.set_cons_zero, List.set_cons_succ, i64_w, i32_w]
    rfl
  refine pure_ (i := 6) (N := some 11) (v := ?_) (a' := ?_) #[true, true, true, true, true, true, true, false, false] rfl rfl (by kernel_rfl) (fun _ _ _ h => h) (Or.inl ⟨by rfl, ?_⟩) ?_ ?_
  rotate_left
  · intro w'
    go_simp
    with_reducible rfl
  rotate_left
  · simp only [Act.put, List.setIfInBounds_toArray, List.set_cons_zero, List.set_cons_succ, i64_w, i32_w]
    rfl
  refine pure_ (i := 7) (N := some 12) (v := ?_) (a' := ?_) #[true, true, true, true, true, true, true, true, false] rfl rfl (by kernel_rfl) (fun _ _ _ h => h) (Or.inl ⟨by rfl, ?_⟩) ?_ ?_
  rotate_left
  · intro w'
    go_simp
    with_reducible rfl
  rotate_left
  · simp only [Act.put, List.setIfInBounds_toArray, List.set_cons_zero, List.set_cons_succ, i64_w, i32_w]
    rfl
  refine pure_ (i := 8) (N := some 4) (v := ?_) (a' := ?_) #[true, true, true, true, true, true, true, true, true] rfl rfl (by kernel_rfl) (fun _ _ _ h => h) (Or.inl ⟨by rfl, ?_⟩) ?_ ?_
  rotate_left
  · intro w'
    go_simp
    with_reducible rfl
  rotate_left
  · simp only [Act.put, List.setIfInBounds_toArray, List.set_cons_zero, List.set_cons_succ, i64_w, i32_w]
    rfl
  refine done_ (by kernel_rfl) ?_
  go_wp2_with fail
  go_ret
  exact ⟨by rw [IntKind.wrap_u32]; rfl, below_drew (Below.refl _ _)⟩
set_option maxRecDepth 100000 in
theorem turn5_calls (x : Int) (w : World) : Calls Tryd.prog 93 #[.int .u32 x, .int .i64 5] w fun e w' => e = .returned (.int .u32 (rot 5 x)) ∧ Below w.heap.size w w' := by
  have ew : wrap64 27 = 27 := by unfold wrap64; omega
  go_enter Tryd.func93, Tryd.ntmps93
  go_wp2_with fail
  refine start_ (n := 9) (S := fun w' => True) (ds := []) #[false, false, false, false, false, false, false, false, false] (by kernel_rfl) rfl rfl trivial (fun hHeld => ?_)
  refine pure_ (i := 0) (N := some 5) (v := ?_) (a' := ?_) #[true, false, false, false, false, false, false, false, false] rfl rfl (by kernel_rfl) (fun _ _ _ h => h) (Or.inl ⟨by rfl, ?_⟩) ?_ ?_
  rotate_left
  · intro w'
    go_simp
    with_reducible rfl
  rotate_left
  · simp only [Act.put, List.setIfInBounds_toArray, List.set_cons_zero, List.set_cons_succ, i64_w, i32_w]
    rfl
  refine pure_ (i := 1) (N := some 6) (v := ?_) (a' := ?_) #[true, true, false, false, false, false, false, false, false] rfl rfl (by kernel_rfl) (fun _ _ _ h => h) (Or.inl ⟨by rfl, ?_⟩) ?_ ?_
  rotate_left
  · intro w'
    go_simp
    with_reducible rfl
  rotate_left
  · simp only [Act.put, List.setIfInBounds_toArray, List.set_cons_zero, List.set_cons_succ, i64_w, i32_w]
    rfl
  refine pure_ (i := 2) (N := some 7) (v := ?_) (a' := ?_) #[true, true, true, false, false, false, false, false, false] rfl rfl (by kernel_rfl) (fun _ _ _ h => h) (Or.inl ⟨by rfl, ?_⟩) ?_ ?_
  rotate_left
  · intro w'
    go_simp
    with_reducible rfl
  rotate_left
  · simp only [Act.put, List.setIfInBounds_toArray, List.set_cons_zero, List.set_cons_succ, i64_w, i32_w]
    rfl
  refine pure_ (i := 3) (N := some 8) (v := ?_) (a' := ?_) #[true, true, true, true, false, false, false, false, false] rfl rfl (by kernel_rfl) (fun _ _ _ h => h) (Or.inl ⟨by rfl, ?_⟩) ?_ ?_
  rotate_left
  · intro w'
    go_simp
    with_reducible rfl
  rotate_left
  · simp only [Act.put, List.setIfInBounds_toArray, List.set_cons_zero, List.set_cons_succ, i64_w, i32_w]
    rfl
  refine pure_ (i := 4) (N := some 9) (v := ?_) (a' := ?_) #[true, true, true, true, true, false, false, false, false] rfl rfl (by kernel_rfl) (fun _ _ _ h => h) (Or.inl ⟨by rfl, ?_⟩) ?_ ?_
  rotate_left
  · intro w'
    go_simp
    with_reducible rfl
  rotate_left
  · simp only [Act.put, List.setIfInBounds_toArray, List.set_cons_zero, List.set_cons_succ, i64_w, i32_w]
    rfl
  refine pure_ (i := 5) (N := some 10) (v := ?_) (a' := ?_) #[true, true, true, true, true, true, false, false, false] rfl rfl (by kernel_rfl) (fun _ _ _ h => h) (Or.inl ⟨by rfl, ?_⟩) ?_ ?_
  rotate_left
  · intro w'
    go_simp
    with_reducible rfl
  rotate_left
  · simp only [Act.put, List.setIfInBounds_toArray, List.set_cons_zero, List.set_cons_succ, i64_w, i32_w]
    rfl
  refine pure_ (i := 6) (N := some 11) (v := ?_) (a' := ?_) #[true, true, true, true, true, true, true, false, false] rfl rfl (by kernel_rfl) (fun _ _ _ h => h) (Or.inl ⟨by rfl, ?_⟩) ?_ ?_
  rotate_left
  · intro w'
    go_simp
    with_reducible rfl
  rotate_left
  · simp only [Act.put, List.setIfInBounds_toArray, List.set_cons_zero, List.set_cons_succ, i64_w, i32_w]
    rfl
  refine pure_ (i := 7) (N := some 12) (v := ?_) (a' := ?_) #[true, true, true, true, true, true, true, true, false] rfl rfl (by kernel_rfl) (fun _ _ _ h => h) (Or.inl ⟨by rfl, ?_⟩) ?_ ?_
  rotate_left
  · intro w'
    go_simp
    with_reducible rfl
  rotate_left
  · simp only [Act.put, List.setIfInBounds_toArray, List.set_cons_zero, List.set_cons_succ, i64_w, i32_w]
    rfl
  refine pure_ (i := 8) (N := some 4) (v := ?_) (a' := ?_) #[true, true, true, true, true, true, true, true, true] rfl rfl (by kernel_rfl) (fun _ _ _ h => h) (Or.inl ⟨by rfl, ?_⟩) ?_ ?_
  rotate_left
  · intro w'
    go_simp
    with_reducible rfl
  rotate_left
  · simp only [Act.put, List.setIfInBounds_toArray, List.set_cons_zero, List.set_cons_succ, i64_w, i32_w]
    rfl
  refine done_ (by kernel_rfl) ?_
  go_wp2_with fail
  go_ret
  exact ⟨by rw [IntKind.wrap_u32]; rfl, below_drew (Below.refl _ _)⟩
set_option maxRecDepth 100000 in
theorem turn30_calls (x : Int) (w : World) : Calls Tryd.prog 93 #[.int .u32 x, .int .i64 30] w fun e w' => e = .returned (.int .u32 (rot 30 x)) ∧ Below w.heap.size w w' := by
  have ew : wrap64 2 = 2 := by unfold wrap64; omega
  go_enter Tryd.func93, Tryd.ntmps93
  go_wp2_with fail
  refine start_ (n := 9) (S := fun w' => True) (ds := []) #[false, false, false, false, false, false, false, false, false] (by kernel_rfl) rfl rfl trivial (fun hHeld => ?_)
  refine pure_ (i := 0) (N := some 5) (v := ?_) (a' := ?_) #[true, false, false, false, false, false, false, false, false] rfl rfl (by kernel_rfl) (fun _ _ _ h => h) (Or.inl ⟨by rfl, ?_⟩) ?_ ?_
  rotate_left
  · intro w'
    go_simp
    with_reducible rfl
  rotate_left
  · simp only [Act.put, List.setIfInBounds_toArray, List.set_cons_zero, List.set_cons_succ, i64_w, i32_w]
    rfl
  refine pure_ (i := 1) (N := some 6) (v := ?_) (a' := ?_) #[true, true, false, false, false, false, false, false, false] rfl rfl (by kernel_rfl) (fun _ _ _ h => h) (Or.inl ⟨by rfl, ?_⟩) ?_ ?_
  rotate_left
  · intro w'
    go_simp
    with_reducible rfl
  rotate_left
  · simp only [Act.put, List.setIfInBounds_toArray, List.set_cons_zero, List.set_cons_succ, i64_w, i32_w]
    rfl
  refine pure_ (i := 2) (N := some 7) (v := ?_) (a' := ?_) #[true, true, true, false, false, false, false, false, false] rfl rfl (by kernel_rfl) (fun _ _ _ h => h) (Or.inl ⟨by rfl, ?_⟩) ?_ ?_
  rotate_left
  · intro w'
    go_simp
    with_reducible rfl
  rotate_left
  · simp only [Act.put, List.setIfInBounds_toArray, List.set_cons_zero, List.set_cons_succ, i64_w, i32_w]
    rfl
  refine pure_ (i := 3) (N := some 8) (v := ?_) (a' := ?_) #[true, true, true, true, false, false, false, false, false] rfl rfl (by kernel_rfl) (fun _ _ _ h => h) (Or.inl ⟨by rfl, ?_⟩) ?_ ?_
  rotate_left
  · intro w'
    go_simp
    with_reducible rfl
  rotate_left
  · simp only [Act.put, List.setIfInBounds_toArray, List.set_cons_zero, List.set_cons_succ, i64_w, i32_w]
    rfl
  refine pure_ (i := 4) (N := some 9) (v := ?_) (a' := ?_) #[true, true, true, true, true, false, false, false, false] rfl rfl (by kernel_rfl) (fun _ _ _ h => h) (Or.inl ⟨by rfl, ?_⟩) ?_ ?_
  rotate_left
  · intro w'
    go_simp
    with_reducible rfl
  rotate_left
  · simp only [Act.put, List.setIfInBounds_toArray, List.set_cons_zero, List.set_cons_succ, i64_w, i32_w]
    rfl
  refine pure_ (i := 5) (N := some 10) (v := ?_) (a' := ?_) #[true, true, true, true, true, true, false, false, false] rfl rfl (by kernel_rfl) (fun _ _ _ h => h) (Or.inl ⟨by rfl, ?_⟩) ?_ ?_
  rotate_left
  · intro w'
    go_simp
    with_reducible rfl
  rotate_left
  · simp only [Act.put, List.setIfInBounds_toArray, List.set_cons_zero, List.set_cons_succ, i64_w, i32_w]
    rfl
  refine pure_ (i := 6) (N := some 11) (v := ?_) (a' := ?_) #[true, true, true, true, true, true, true, false, false] rfl rfl (by kernel_rfl) (fun _ _ _ h => h) (Or.inl ⟨by rfl, ?_⟩) ?_ ?_
  rotate_left
  · intro w'
    go_simp
    with_reducible rfl
  rotate_left
  · simp only [Act.put, List.setIfInBounds_toArray, List.set_cons_zero, List.set_cons_succ, i64_w, i32_w]
    rfl
  refine pure_ (i := 7) (N := some 12) (v := ?_) (a' := ?_) #[true, true, true, true, true, true, true, true, false] rfl rfl (by kernel_rfl) (fun _ _ _ h => h) (Or.inl ⟨by rfl, ?_⟩) ?_ ?_
  rotate_left
  · intro w'
    go_simp
    with_reducible rfl
  rotate_left
  · simp only [Act.put, List.setIfInBounds_toArray, List.set_cons_zero, List.set_cons_succ, i64_w, i32_w]
    rfl
  refine pure_ (i := 8) (N := some 4) (v := ?_) (a' := ?_) #[true, true, true, true, true, true, true, true, true] rfl rfl (by kernel_rfl) (fun _ _ _ h => h) (Or.inl ⟨by rfl, ?_⟩) ?_ ?_
  rotate_left
  · intro w'
    go_simp
    with_reducible rfl
  rotate_left
  · simp only [Act.put, List.setIfInBounds_toArray, List.set_cons_zero, List.set_cons_succ, i64_w, i32_w]
    rfl
  refine done_ (by kernel_rfl) ?_
  go_wp2_with fail
  go_ret
  exact ⟨by rw [IntKind.wrap_u32]; rfl, below_drew (Below.refl _ _)⟩
def partv (t : Nat) (b c d : Int) : Int := if t < 20 then Go.bits .or .u32 (Go.bits .and .u32 b c) (Go.bits .and .u32 (Go.bits .xor .u32 IntKind.u32.max b) d) else if t < 40 then Go.bits .xor .u32 (Go.bits .xor .u32 b c) d else if t < 60 then Go.bits .or .u32 (Go.bits .or .u32 (Go.bits .and .u32 b c) (Go.bits .and .u32 b d)) (Go.bits .and .u32 c d) else Go.bits .xor .u32 (Go.bits .xor .u32 b c) d
def partk (t : Nat) : Int := if t < 20 then 1518500249 else if t < 40 then 1859775393 else if t < 60 then 2400959708 else 3395469782
theorem part_calls (t : Nat) (b c d : Int) (w : World) (ht : t < 80) : Calls Tryd.prog 94 #[.int .i64 (t : Int), .int .u32 b, .int .u32 c, .int .u32 d] w fun e w' => e = .returned (.tuple #[.int .u32 (partv t b c d), .int .u32 (partk t)]) ∧ w = w' := by
  unfold partv partk
  by_cases h20 : t < 20
  · rw [if_pos h20, if_pos h20]
    have d20 : decide ((t : Int) < 20) = true := decide_eq_true (by omega)
    have e20 : ((t : Int) < 20) = True := eq_true (by omega)
    clear ht h20
    go_enter Tryd.func94, Tryd.ntmps94
    go_wp2
    go_ret2
    exact ⟨rfl, rfl⟩
  · rw [if_neg h20, if_neg h20]
    by_cases h40 : t < 40
    · rw [if_pos h40, if_pos h40]
      have d20 : decide ((t : Int) < 20) = false := decide_eq_false (by omega)
      have e20 : ((t : Int) < 20) = False := eq_false (by omega)
      have d40 : decide ((t : Int) < 40) = true := decide_eq_true (by omega)
      have e40 : ((t : Int) < 40) = True := eq_true (by omega)
      clear ht h20 h40
      go_enter Tryd.func94, Tryd.ntmps94
      go_wp2
      go_ret2
      exact ⟨rfl, rfl⟩
    · rw [if_neg h40, if_neg h40]
      by_cases h60 : t < 60
      · rw [if_pos h60, if_pos h60]
        have d20 : decide ((t : Int) < 20) = false := decide_eq_false (by omega)
        have e20 : ((t : Int) < 20) = False := eq_false (by omega)
        have d40 : decide ((t : Int) < 40) = false := decide_eq_false (by omega)
        have e40 : ((t : Int) < 40) = False := eq_false (by omega)
        have d60 : decide ((t : Int) < 60) = true := decide_eq_true (by omega)
        have e60 : ((t : Int) < 60) = True := eq_true (by omega)
        clear ht h20 h40 h60
        go_enter Tryd.func94, Tryd.ntmps94
        go_wp2
        go_ret2
        exact ⟨rfl, rfl⟩
      · rw [if_neg h60, if_neg h60]
        have d20 : decide ((t : Int) < 20) = false := decide_eq_false (by omega)
        have e20 : ((t : Int) < 20) = False := eq_false (by omega)
        have d40 : decide ((t : Int) < 40) = false := decide_eq_false (by omega)
        have e40 : ((t : Int) < 40) = False := eq_false (by omega)
        have d60 : decide ((t : Int) < 60) = false := decide_eq_false (by omega)
        have e60 : ((t : Int) < 60) = False := eq_false (by omega)
        clear ht h20 h40 h60
        go_enter Tryd.func94, Tryd.ntmps94
        go_wp2
        go_ret2
        exact ⟨rfl, rfl⟩
def word (l : List Int) (t : Nat) : Int := IntKind.u32.wrap (IntKind.u32.wrap (IntKind.u32.wrap (IntKind.u32.wrap (IntKind.u32.wrap (IntKind.u32.wrap (IntKind.u32.wrap (l.getD (4 * t) 0) * 256) + IntKind.u32.wrap (l.getD (4 * t + 1) 0)) * 256) + IntKind.u32.wrap (l.getD (4 * t + 2) 0)) * 256) + IntKind.u32.wrap (l.getD (4 * t + 3) 0))
def wd (l : List Int) : Nat → List Int
  | 0 => []
  | t + 1 => wd l t ++ [word l t]
theorem wd_length (l : List Int) : ∀ t, (wd l t).length = t
  | 0 => rfl
  | t + 1 => by rw [wd, List.length_append, wd_length l t]; rfl
def wx (l : List Int) : Nat → List Int
  | 0 => wd l 16
  | k + 1 => wx l k ++ [rot 1 (Go.bits .xor .u32 (Go.bits .xor .u32 (Go.bits .xor .u32 ((wx l k).getD (k + 13) 0) ((wx l k).getD (k + 8) 0)) ((wx l k).getD (k + 2) 0)) ((wx l k).getD k 0))]
theorem wx_length (l : List Int) : ∀ k, (wx l k).length = 16 + k
  | 0 => wd_length l 16
  | k + 1 => by rw [wx, List.length_append, wx_length l k]; rfl
theorem wx_succ (l : List Int) (t : Nat) (h : 16 ≤ t) : wx l (t + 1 - 16) = wx l (t - 16) ++ [rot 1 (Go.bits .xor .u32 (Go.bits .xor .u32 (Go.bits .xor .u32 ((wx l (t - 16)).getD (t - 3) 0) ((wx l (t - 16)).getD (t - 8) 0)) ((wx l (t - 16)).getD (t - 14) 0)) ((wx l (t - 16)).getD (t - 16) 0))] := by
  rw [show t + 1 - 16 = (t - 16) + 1 by omega, wx, show t - 16 + 13 = t - 3 by omega, show t - 16 + 8 = t - 8 by omega, show t - 16 + 2 = t - 14 by omega]
def rsn (t : Nat) (x : Int) (s : Int × Int × Int × Int × Int) : Int × Int × Int × Int × Int :=
  match s with
  | (a, b, c, d, e) => (IntKind.u32.wrap (IntKind.u32.wrap (IntKind.u32.wrap (IntKind.u32.wrap (rot 5 a + partv t b c d) + e) + partk t) + x), a, rot 30 b, c, d)
def rs (h0 h1 h2 h3 h4 : Int) (l : List Int) : Nat → Int × Int × Int × Int × Int
  | 0 => (h0, h1, h2, h3, h4)
  | t + 1 => rsn t ((wx l 64).getD t 0) (rs h0 h1 h2 h3 h4 l t)
def up4 (h0 h1 h2 h3 h4 a b c d e : Int) : Nat → Int × Int × Int × Int × Int
  | 0 => (h0, h1, h2, h3, h4)
  | 1 => (IntKind.u32.wrap (h0 + a), h1, h2, h3, h4)
  | 2 => (IntKind.u32.wrap (h0 + a), IntKind.u32.wrap (h1 + b), h2, h3, h4)
  | 3 => (IntKind.u32.wrap (h0 + a), IntKind.u32.wrap (h1 + b), IntKind.u32.wrap (h2 + c), h3, h4)
  | 4 => (IntKind.u32.wrap (h0 + a), IntKind.u32.wrap (h1 + b), IntKind.u32.wrap (h2 + c), IntKind.u32.wrap (h3 + d), h4)
  | _ + 5 => (IntKind.u32.wrap (h0 + a), IntKind.u32.wrap (h1 + b), IntKind.u32.wrap (h2 + c), IntKind.u32.wrap (h3 + d), IntKind.u32.wrap (h4 + e))
def doneF (h0 h1 h2 h3 h4 : Int) (l : List Int) : Int × Int × Int × Int × Int :=
  match rs h0 h1 h2 h3 h4 l 80 with
  | (a, b, c, d, e) => (IntKind.u32.wrap (h0 + a), IntKind.u32.wrap (h1 + b), IntKind.u32.wrap (h2 + c), IntKind.u32.wrap (h3 + d), IntKind.u32.wrap (h4 + e))
theorem iy_w (t k : Nat) (h : t < 80) (hk : k ≤ 16) (h16 : 16 ≤ t) : wrap64 ((t : Int) - (k : Int)) = (t : Int) - (k : Int) := by unfold wrap64; omega
theorem iy_z (t k : Nat) (hk : k ≤ 16) (h16 : 16 ≤ t) : ((k : Int) ≤ (t : Int)) = True := eq_true (by omega)
theorem iy_p (t k : Nat) (hk : k ≤ 16) (h16 : 16 ≤ t) : (0 ≤ (t : Int) - (k : Int)) = True := eq_true (by omega)
theorem iy_q (t k : Nat) (hk : 0 < k) (h16 : 16 ≤ t) : ((t : Int) - (k : Int) < (t : Int)) = True := eq_true (by omega)
theorem iy_n (t k : Nat) : ((t : Int) - (k : Int)).toNat = t - k := by omega
theorem iy_l (t k n : Nat) (hk : 0 < k) (h16 : 16 ≤ t) (hn : n = t) : t - k < n := by omega
theorem row_cell {W : World} {g n c b : Nat} {xs : List Int} (h : Kd.R (Kd.int .u32) 41 W b (fun _ => True) (.slice (some ⟨g, 0, none⟩) n c) xs) (i : Nat) (hi : i < xs.length) {x : Int} (hx : xs.getD i 0 = x) : W.cell? ⟨g, i, none⟩ = some (.int .u32 x) := by
  have := C_getb (Kd.R_reads' h).2.2 rfl i hi hx
  rwa [show (⟨g, 0, none⟩ : Addr).add i = ⟨g, i, none⟩ by by_cases h0 : i = 0 <;> simp [Addr.add, h0]] at this
theorem ix_w (t k : Nat) (h : t < 16) (hk : k < 4) : wrap64 (4 * (t : Int) + (k : Int)) = 4 * (t : Int) + (k : Int) := by unfold wrap64; omega
theorem ix_w0 (t : Nat) (h : t < 16) : wrap64 (4 * (t : Int)) = 4 * (t : Int) := by unfold wrap64; omega
theorem ix_p (t k : Nat) : (0 ≤ 4 * (t : Int) + (k : Int)) = True := eq_true (by omega)
theorem ix_p0 (t : Nat) : (0 ≤ 4 * (t : Int)) = True := eq_true (by omega)
theorem ix_q (t k n : Nat) (h : t < 16) (hk : k < 4) (hn : 64 ≤ n) : (4 * (t : Int) + (k : Int) < (n : Int)) = True := eq_true (by omega)
theorem ix_q0 (t n : Nat) (h : t < 16) (hn : 64 ≤ n) : (4 * (t : Int) < (n : Int)) = True := eq_true (by omega)
theorem ix_n (t k : Nat) : (4 * (t : Int) + (k : Int)).toNat = 4 * t + k := by omega
theorem ix_l (t k n : Nat) (h : t < 16) (hk : k < 4) (hn : 64 ≤ n) : 4 * t + k < n := by omega
theorem add_cell {w : World} {ad : Addr} {m : Nat} {v : Option Value} (h : w.cell? (ad.add (m + 1)) = v) : w.cell? ⟨ad.block, ad.off + (m + 1), none⟩ = v := h
theorem ix_n0 (t : Nat) : (4 * (t : Int)).toNat = 4 * t := by omega
set_option maxHeartbeats 3200000 in
set_option maxRecDepth 100000 in
theorem done_calls (h0 h1 h2 h3 h4 : Int) (ad : Addr) (n c : Nat) (l : List Int) (w : World) (hr : Kd.C (Kd.int .u8) w (some ad) n l) (hl : l.length = n) (hn : 64 ≤ n) (hn2 : n ≤ 9223372036854775807) :
    Calls Tryd.prog 71 #[.agg #[.int .u32 h0, .int .u32 h1, .int .u32 h2, .int .u32 h3, .int .u32 h4], .slice (some ad) n c] w fun e w' => e = .returned (.agg #[.int .u32 (doneF h0 h1 h2 h3 h4 l).1, .int .u32 (doneF h0 h1 h2 h3 h4 l).2.1, .int .u32 (doneF h0 h1 h2 h3 h4 l).2.2.1, .int .u32 (doneF h0 h1 h2 h3 h4 l).2.2.2.1, .int .u32 (doneF h0 h1 h2 h3 h4 l).2.2.2.2]) ∧ Below w.heap.size w w' := by
  have HR := Aside0.mk hr
  have HL := Aside0.mk hl
  have HN := Aside0.mk hn
  clear hr hl hn
  go_enter Tryd.func71, Tryd.ntmps71
  go_wp2_with (first | ((with_reducible refine gate_dst (N := 2) rfl ?_); refine box_event ?hg (N := 2) ?hd (cs := #[.int .u32 h0, .int .u32 h1, .int .u32 h2, .int .u32 h3, .int .u32 h4]) (t := 42) ?hr ?_; (case hd => rfl); (case hg => rfl); (case hr => first | (go_simp; done) | (go_simp; rfl)); intro g1 hgg1 w2 hhg1 hbg1; have H5 := Aside0.mk hhg1; have G3 : w.heap.size ≤ g1 := Nat.le_of_eq hgg1.symm; have B4 := Aside0.mk (hbg1); clear hgg1 hhg1 hbg1) | ((with_reducible refine gate_dst (N := 4) rfl ?_); refine box_event ?hg (N := 4) ?hd (cs := #[.int .u32 0, .int .u32 0, .int .u32 0, .int .u32 0, .int .u32 0]) (t := 42) ?hr ?_; (case hd => rfl); (case hg => rfl); (case hr => first | (go_simp; done) | (go_simp; rfl)); intro g6 hgg6 w7 hhg6 hbg6; have H12 := Aside0.mk hhg6; have N8 : g1 ≠ g6 := Nat.ne_of_lt (Nat.lt_of_lt_of_eq (blk_lt H5.out) hgg6.symm); have G9 : w.heap.size ≤ g6 := Nat.le_trans B4.out.size (Nat.le_of_eq hgg6.symm); have B10 := Aside0.mk (below_step B4.out hbg6); have H11 := Aside0.mk (blk_below H5.out hbg6); clear hgg6 hhg6 hbg6 B4 H5))
  go_loopg [5, 6] 16 (fun n v5 v6 w' => ∃ (t : Nat), v6 = .int .i64 (t : Int) ∧ Aside0 (t + n = 16) ∧ Aside0 (Kd.R (Kd.int .u32) 41 w' w.heap.size (fun _ => True) v5 (wd l t)) ∧ Aside0 (w'.heap[g1]? = some (.cells #[.int .u32 h0, .int .u32 h1, .int .u32 h2, .int .u32 h3, .int .u32 h4] 42 (0, 0))) ∧ Aside0 (w'.heap[g6]? = some (.cells #[.int .u32 0, .int .u32 0, .int .u32 0, .int .u32 0, .int .u32 0] 42 (0, 0))) ∧ Aside0 (Below w.heap.size w w'))
  case atStart => exact ⟨0, rfl, ⟨rfl⟩, ⟨Kd.R_nil _ _ _ _ _⟩, H11, H12, B10⟩
  case round =>
    clear H11 H12 B10
    obtain ⟨t, rfl, HK, HO, HA2, HA4, BB⟩ := hrel
    by_cases hk : t < 16
    · obtain ⟨go, rfl⟩ : ∃ j, gk = j + 1 := ⟨gk - 1, by have := HK.out; omega⟩
      have ht1 : ((t : Int) < 16) = True := eq_true (by omega)
      have hn4 := HN.out
      have xw0 : wrap64 (4 * (t : Int)) = 4 * (t : Int) := ix_w0 t hk
      have xp0 : (0 ≤ 4 * (t : Int)) = True := ix_p0 t
      have xq0 : (4 * (t : Int) < (n : Int)) = True := ix_q0 t n hk hn4
      have xn0 : (4 * (t : Int)).toNat = 4 * t := ix_n0 t
      obtain ⟨x0, hx0⟩ : ∃ v : Int, l.getD (4 * t) 0 = v := ⟨_, rfl⟩
      have HX0 := Aside0.mk hx0
      clear hx0
      have xw1 : wrap64 (4 * (t : Int) + 1) = 4 * (t : Int) + 1 := ix_w t 1 hk (by decide)
      have xp1 : (0 ≤ 4 * (t : Int) + 1) = True := ix_p t 1
      have xq1 : (4 * (t : Int) + 1 < (n : Int)) = True := ix_q t 1 n hk (by decide) hn4
      have xn1 : (4 * (t : Int) + 1).toNat = 4 * t + 1 := ix_n t 1
      obtain ⟨x1, hx1⟩ : ∃ v : Int, l.getD (4 * t + 1) 0 = v := ⟨_, rfl⟩
      have HX1 := Aside0.mk hx1
      clear hx1
      have xw2 : wrap64 (4 * (t : Int) + 2) = 4 * (t : Int) + 2 := ix_w t 2 hk (by decide)
      have xp2 : (0 ≤ 4 * (t : Int) + 2) = True := ix_p t 2
      have xq2 : (4 * (t : Int) + 2 < (n : Int)) = True := ix_q t 2 n hk (by decide) hn4
      have xn2 : (4 * (t : Int) + 2).toNat = 4 * t + 2 := ix_n t 2
      obtain ⟨x2, hx2⟩ : ∃ v : Int, l.getD (4 * t + 2) 0 = v := ⟨_, rfl⟩
      have HX2 := Aside0.mk hx2
      clear hx2
      have xw3 : wrap64 (4 * (t : Int) + 3) = 4 * (t : Int) + 3 := ix_w t 3 hk (by decide)
      have xp3 : (0 ≤ 4 * (t : Int) + 3) = True := ix_p t 3
      have xq3 : (4 * (t : Int) + 3 < (n : Int)) = True := ix_q t 3 n hk (by decide) hn4
      have xn3 : (4 * (t : Int) + 3).toNat = 4 * t + 3 := ix_n t 3
      obtain ⟨x3, hx3⟩ : ∃ v : Int, l.getD (4 * t + 3) 0 = v := ⟨_, rfl⟩
      have HX3 := Aside0.mk hx3
      clear hx3
      go_wp2_with fail
      have HA25 := Aside0.mk (blk_drew HA2.out)
      have HA45 := Aside0.mk (blk_drew HA4.out)
      have HO5 := Aside0.mk (Kd.R_drew HO.out)
      have B5 := Aside0.mk (below_drew BB.out)
      clear HA2 HA4 HO BB
      refine start_ (n := 37) (S := fun w' => w'.cell? (ad.add (4 * t)) = some (.int .u8 x0) ∧ w'.cell? ⟨ad.block, ad.off + (4 * t + 1), none⟩ = some (.int .u8 x1) ∧ w'.cell? ⟨ad.block, ad.off + (4 * t + 2), none⟩ = some (.int .u8 x2) ∧ w'.cell? ⟨ad.block, ad.off + (4 * t + 3), none⟩ = some (.int .u8 x3)) (ds := []) #[false, false, false, false, false, false, false, false, false, false, false, false, false, false, false, false, false, false, false, false, false, false, false, false, false, false, false, false, false, false, false, false, false, false, false, false, false] (by kernel_rfl) rfl rfl ⟨(C_getb (Kd.C_below HR.out B5.out) HL.out (4 * t) (ix_l t 0 n hk (by decide) HN.out) HX0.out), (add_cell <| C_getb (Kd.C_below HR.out B5.out) HL.out (4 * t + 1) (ix_l t 1 n hk (by decide) HN.out) HX1.out), (add_cell <| C_getb (Kd.C_below HR.out B5.out) HL.out (4 * t + 2) (ix_l t 2 n hk (by decide) HN.out) HX2.out), (add_cell <| C_getb (Kd.C_below HR.out B5.out) HL.out (4 * t + 3) (ix_l t 3 n hk (by decide) HN.out) HX3.out)⟩ (fun hHeld => ?_)
      generalize World.drew wr = w5 at HA25 HA45 HO5 B5 hHeld ⊢
      refine pure_ (i := 0) (N := some 17) (v := ?_) (a' := ?_) #[true, false, false, false, false, false, false, false, false, false, false, false, false, false, false, false, false, false, false, false, false, false, false, false, false, false, false, false, false, false, false, false, false, false, false, false, false] rfl rfl (by kernel_rfl) (fun _ _ _ h => h) (Or.inl ⟨by rfl, ?_⟩) ?_ ?_
      rotate_left
      · intro w'
        go_simp
        with_reducible rfl
      rotate_left
      · simp only [Act.put, List.setIfInBounds_toArray, List.set_cons_zero, List.set_cons_succ, i64_w, i32_w]
        rfl
      refine pure_ (i := 1) (N := some 18) (v := ?_) (a' := ?_) #[true, true, false, false, false, false, false, false, false, false, false, false, false, false, false, false, false, false, false, false, false, false, false, false, false, false, false, false, false, false, false, false, false, false, false, false, false] rfl rfl (by kernel_rfl) (fun _ _ _ h => h) (Or.inl ⟨by rfl, ?_⟩) ?_ ?_
      rotate_left
      · intro w'
        go_simp
        with_reducible rfl
      rotate_left
      · simp only [Act.put, List.setIfInBounds_toArray, List.set_cons_zero, List.set_cons_succ, i64_w, i32_w]
        rfl
      refine pure_ (i := 2) (N := some 19) (v := ?_) (a' := ?_) #[true, true, true, false, false, false, false, false, false, false, false, false, false, false, false, false, false, false, false, false, false, false, false, false, false, false, false, false, false, false, false, false, false, false, false, false, false] rfl rfl (by kernel_rfl) (fun _ _ _ h => h) (Or.inl ⟨by rfl, ?_⟩) ?_ ?_
      rotate_left
      · intro w'
        go_simp
        with_reducible rfl
      rotate_left
      · simp only [Act.put, List.setIfInBounds_toArray, List.set_cons_zero, List.set_cons_succ, i64_w, i32_w]
        rfl
      refine pure_ (i := 3) (N := some 20) (v := ?_) (a' := ?_) #[true, true, true, true, false, false, false, false, false, false, false, false, false, false, false, false, false, false, false, false, false, false, false, false, false, false, false, false, false, false, false, false, false, false, false, false, false] rfl rfl (by kernel_rfl) (fun _ _ _ h => h) (Or.inl ⟨by rfl, ?_⟩) ?_ ?_
      rotate_left
      · intro w'
        go_simp
        with_reducible rfl
      rotate_left
      · simp only [Act.put, List.setIfInBounds_toArray, List.set_cons_zero, List.set_cons_succ, i64_w, i32_w]
        rfl
      refine pure_ (i := 4) (N := some 21) (v := ?_) (a' := ?_) #[true, true, true, true, true, false, false, false, false, false, false, false, false, false, false, false, false, false, false, false, false, false, false, false, false, false, false, false, false, false, false, false, false, false, false, false, false] rfl rfl (by kernel_rfl) (fun _ _ _ h => h) (Or.inl ⟨by rfl, ?_⟩) ?_ ?_
      rotate_left
      · intro w'
        go_simp
        with_reducible rfl
      rotate_left
      · simp only [Act.put, List.setIfInBounds_toArray, List.set_cons_zero, List.set_cons_succ, i64_w, i32_w]
        rfl
      refine pure_ (i := 8) (N := some 25) (v := ?_) (a' := ?_) #[true, true, true, true, true, false, false, false, true, false, false, false, false, false, false, false, false, false, false, false, false, false, false, false, false, false, false, false, false, false, false, false, false, false, false, false, false] rfl rfl (by kernel_rfl) (fun _ _ _ h => h) (Or.inl ⟨by rfl, ?_⟩) ?_ ?_
      rotate_left
      · intro w'
        go_simp
        with_reducible rfl
      rotate_left
      · simp only [Act.put, List.setIfInBounds_toArray, List.set_cons_zero, List.set_cons_succ, i64_w, i32_w]
        rfl
      refine pure_ (i := 9) (N := some 26) (v := ?_) (a' := ?_) #[true, true, true, true, true, false, false, false, true, true, false, false, false, false, false, false, false, false, false, false, false, false, false, false, false, false, false, false, false, false, false, false, false, false, false, false, false] rfl rfl (by kernel_rfl) (fun _ _ _ h => h) (Or.inl ⟨by rfl, ?_⟩) ?_ ?_
      rotate_left
      · intro w'
        go_simp
        with_reducible rfl
      rotate_left
      · simp only [Act.put, List.setIfInBounds_toArray, List.set_cons_zero, List.set_cons_succ, i64_w, i32_w]
        rfl
      refine pure_ (i := 10) (N := some 27) (v := ?_) (a' := ?_) #[true, true, true, true, true, false, false, false, true, true, true, false, false, false, false, false, false, false, false, false, false, false, false, false, false, false, false, false, false, false, false, false, false, false, false, false, false] rfl rfl (by kernel_rfl) (fun _ _ _ h => h) (Or.inl ⟨by rfl, ?_⟩) ?_ ?_
      rotate_left
      · intro w'
        go_simp
        with_reducible rfl
      rotate_left
      · simp only [Act.put, List.setIfInBounds_toArray, List.set_cons_zero, List.set_cons_succ, i64_w, i32_w]
        rfl
      refine pure_ (i := 11) (N := some 28) (v := ?_) (a' := ?_) #[true, true, true, true, true, false, false, false, true, true, true, true, false, false, false, false, false, false, false, false, false, false, false, false, false, false, false, false, false, false, false, false, false, false, false, false, false] rfl rfl (by kernel_rfl) (fun _ _ _ h => h) (Or.inl ⟨by rfl, ?_⟩) ?_ ?_
      rotate_left
      · intro w'
        go_simp
        with_reducible rfl
      rotate_left
      · simp only [Act.put, List.setIfInBounds_toArray, List.set_cons_zero, List.set_cons_succ, i64_w, i32_w]
        rfl
      refine pure_ (i := 12) (N := some 29) (v := ?_) (a' := ?_) #[true, true, true, true, true, false, false, false, true, true, true, true, true, false, false, false, false, false, false, false, false, false, false, false, false, false, false, false, false, false, false, false, false, false, false, false, false] rfl rfl (by kernel_rfl) (fun _ _ _ h => h) (Or.inl ⟨by rfl, ?_⟩) ?_ ?_
      rotate_left
      · intro w'
        go_simp
        with_reducible rfl
      rotate_left
      · simp only [Act.put, List.setIfInBounds_toArray, List.set_cons_zero, List.set_cons_succ, i64_w, i32_w]
        rfl
      refine pure_ (i := 17) (N := some 34) (v := ?_) (a' := ?_) #[true, true, true, true, true, false, false, false, true, true, true, true, true, false, false, false, false, true, false, false, false, false, false, false, false, false, false, false, false, false, false, false, false, false, false, false, false] rfl rfl (by kernel_rfl) (fun _ _ _ h => h) (Or.inl ⟨by rfl, ?_⟩) ?_ ?_
      rotate_left
      · intro w'
        go_simp
        with_reducible rfl
      rotate_left
      · simp only [Act.put, List.setIfInBounds_toArray, List.set_cons_zero, List.set_cons_succ, i64_w, i32_w]
        rfl
      refine pure_ (i := 18) (N := some 35) (v := ?_) (a' := ?_) #[true, true, true, true, true, false, false, false, true, true, true, true, true, false, false, false, false, true, true, false, false, false, false, false, false, false, false, false, false, false, false, false, false, false, false, false, false] rfl rfl (by kernel_rfl) (fun _ _ _ h => h) (Or.inl ⟨by rfl, ?_⟩) ?_ ?_
      rotate_left
      · intro w'
        go_simp
        with_reducible rfl
      rotate_left
      · simp only [Act.put, List.setIfInBounds_toArray, List.set_cons_zero, List.set_cons_succ, i64_w, i32_w]
        rfl
      refine pure_ (i := 19) (N := some 36) (v := ?_) (a' := ?_) #[true, true, true, true, true, false, false, false, true, true, true, true, true, false, false, false, false, true, true, true, false, false, false, false, false, false, false, false, false, false, false, false, false, false, false, false, false] rfl rfl (by kernel_rfl) (fun _ _ _ h => h) (Or.inl ⟨by rfl, ?_⟩) ?_ ?_
      rotate_left
      · intro w'
        go_simp
        with_reducible rfl
      rotate_left
      · simp only [Act.put, List.setIfInBounds_toArray, List.set_cons_zero, List.set_cons_succ, i64_w, i32_w]
        rfl
      refine pure_ (i := 20) (N := some 37) (v := ?_) (a' := ?_) #[true, true, true, true, true, false, false, false, true, true, true, true, true, false, false, false, false, true, true, true, true, false, false, false, false, false, false, false, false, false, false, false, false, false, false, false, false] rfl rfl (by kernel_rfl) (fun _ _ _ h => h) (Or.inl ⟨by rfl, ?_⟩) ?_ ?_
      rotate_left
      · intro w'
        go_simp
        with_reducible rfl
      rotate_left
      · simp only [Act.put, List.setIfInBounds_toArray, List.set_cons_zero, List.set_cons_succ, i64_w, i32_w]
        rfl
      refine pure_ (i := 21) (N := some 38) (v := ?_) (a' := ?_) #[true, true, true, true, true, false, false, false, true, true, true, true, true, false, false, false, false, true, true, true, true, true, false, false, false, false, false, false, false, false, false, false, false, false, false, false, false] rfl rfl (by kernel_rfl) (fun _ _ _ h => h) (Or.inl ⟨by rfl, ?_⟩) ?_ ?_
      rotate_left
      · intro w'
        go_simp
        with_reducible rfl
      rotate_left
      · simp only [Act.put, List.setIfInBounds_toArray, List.set_cons_zero, List.set_cons_succ, i64_w, i32_w]
        rfl
      refine pure_ (i := 26) (N := some 43) (v := ?_) (a' := ?_) #[true, true, true, true, true, false, false, false, true, true, true, true, true, false, false, false, false, true, true, true, true, true, false, false, false, false, true, false, false, false, false, false, false, false, false, false, false] rfl rfl (by kernel_rfl) (fun _ _ _ h => h) (Or.inl ⟨by rfl, ?_⟩) ?_ ?_
      rotate_left
      · intro w'
        go_simp
        with_reducible rfl
      rotate_left
      · simp only [Act.put, List.setIfInBounds_toArray, List.set_cons_zero, List.set_cons_succ, i64_w, i32_w]
        rfl
      refine pure_ (i := 27) (N := some 44) (v := ?_) (a' := ?_) #[true, true, true, true, true, false, false, false, true, true, true, true, true, false, false, false, false, true, true, true, true, true, false, false, false, false, true, true, false, false, false, false, false, false, false, false, false] rfl rfl (by kernel_rfl) (fun _ _ _ h => h) (Or.inl ⟨by rfl, ?_⟩) ?_ ?_
      rotate_left
      · intro w'
        go_simp
        with_reducible rfl
      rotate_left
      · simp only [Act.put, List.setIfInBounds_toArray, List.set_cons_zero, List.set_cons_succ, i64_w, i32_w]
        rfl
      refine pure_ (i := 28) (N := some 45) (v := ?_) (a' := ?_) #[true, true, true, true, true, false, false, false, true, true, true, true, true, false, false, false, false, true, true, true, true, true, false, false, false, false, true, true, true, false, false, false, false, false, false, false, false] rfl rfl (by kernel_rfl) (fun _ _ _ h => h) (Or.inl ⟨by rfl, ?_⟩) ?_ ?_
      rotate_left
      · intro w'
        go_simp
        with_reducible rfl
      rotate_left
      · simp only [Act.put, List.setIfInBounds_toArray, List.set_cons_zero, List.set_cons_succ, i64_w, i32_w]
        rfl
      refine pure_ (i := 29) (N := some 46) (v := ?_) (a' := ?_) #[true, true, true, true, true, false, false, false, true, true, true, true, true, false, false, false, false, true, true, true, true, true, false, false, false, false, true, true, true, true, false, false, false, false, false, false, false] rfl rfl (by kernel_rfl) (fun _ _ _ h => h) (Or.inl ⟨by rfl, ?_⟩) ?_ ?_
      rotate_left
      · intro w'
        go_simp
        with_reducible rfl
      rotate_left
      · simp only [Act.put, List.setIfInBounds_toArray, List.set_cons_zero, List.set_cons_succ, i64_w, i32_w]
        rfl
      refine pure_ (i := 30) (N := some 47) (v := ?_) (a' := ?_) #[true, true, true, true, true, false, false, false, true, true, true, true, true, false, false, false, false, true, true, true, true, true, false, false, false, false, true, true, true, true, true, false, false, false, false, false, false] rfl rfl (by kernel_rfl) (fun _ _ _ h => h) (Or.inl ⟨by rfl, ?_⟩) ?_ ?_
      rotate_left
      · intro w'
        go_simp
        with_reducible rfl
      rotate_left
      · simp only [Act.put, List.setIfInBounds_toArray, List.set_cons_zero, List.set_cons_succ, i64_w, i32_w]
        rfl
      refine take_ (i := 5) (N := some 22) (v := ?_) (a' := ?_) #[true, true, true, true, true, true, false, false, true, true, true, true, true, false, false, false, false, true, true, true, true, true, false, false, false, false, true, true, true, true, true, false, false, false, false, false, false] rfl rfl (by kernel_rfl) (fun _ _ _ h => h) (Or.inl ⟨by rfl, ?_⟩) hHeld ?_ ?_
      rotate_left
      · rintro w' ⟨s0, s1, s2, s3⟩
        go_simp
        with_reducible rfl
      rotate_left
      · simp only [Act.put, List.setIfInBounds_toArray, List.set_cons_zero, List.set_cons_succ, i64_w, i32_w]
        rfl
      refine pure_ (i := 6) (N := some 23) (v := ?_) (a' := ?_) #[true, true, true, true, true, true, true, false, true, true, true, true, true, false, false, false, false, true, true, true, true, true, false, false, false, false, true, true, true, true, true, false, false, false, false, false, false] rfl rfl (by kernel_rfl) (fun _ _ _ h => h) (Or.inl ⟨by rfl, ?_⟩) ?_ ?_
      rotate_left
      · intro w'
        go_simp
        with_reducible rfl
      rotate_left
      · simp only [Act.put, List.setIfInBounds_toArray, List.set_cons_zero, List.set_cons_succ, i64_w, i32_w]
        rfl
      refine pure_ (i := 7) (N := some 24) (v := ?_) (a' := ?_) #[true, true, true, true, true, true, true, true, true, true, true, true, true, false, false, false, false, true, true, true, true, true, false, false, false, false, true, true, true, true, true, false, false, false, false, false, false] rfl rfl (by kernel_rfl) (fun _ _ _ h => h) (Or.inl ⟨by rfl, ?_⟩) ?_ ?_
      rotate_left
      · intro w'
        go_simp
        with_reducible rfl
      rotate_left
      · simp only [Act.put, List.setIfInBounds_toArray, List.set_cons_zero, List.set_cons_succ, i64_w, i32_w]
        rfl
      refine take_ (i := 13) (N := some 30) (v := ?_) (a' := ?_) #[true, true, true, true, true, true, true, true, true, true, true, true, true, true, false, false, false, true, true, true, true, true, false, false, false, false, true, true, true, true, true, false, false, false, false, false, false] rfl rfl (by kernel_rfl) (fun _ _ _ h => h) (Or.inl ⟨by rfl, ?_⟩) hHeld ?_ ?_
      rotate_left
      · rintro w' ⟨s0, s1, s2, s3⟩
        go_simp
        with_reducible rfl
      rotate_left
      · simp only [Act.put, List.setIfInBounds_toArray, List.set_cons_zero, List.set_cons_succ, i64_w, i32_w]
        rfl
      refine pure_ (i := 14) (N := some 31) (v := ?_) (a' := ?_) #[true, true, true, true, true, true, true, true, true, true, true, true, true, true, true, false, false, true, true, true, true, true, false, false, false, false, true, true, true, true, true, false, false, false, false, false, false] rfl rfl (by kernel_rfl) (fun _ _ _ h => h) (Or.inl ⟨by rfl, ?_⟩) ?_ ?_
      rotate_left
      · intro w'
        go_simp
        with_reducible rfl
      rotate_left
      · simp only [Act.put, List.setIfInBounds_toArray, List.set_cons_zero, List.set_cons_succ, i64_w, i32_w]
        rfl
      refine pure_ (i := 15) (N := some 32) (v := ?_) (a' := ?_) #[true, true, true, true, true, true, true, true, true, true, true, true, true, true, true, true, false, true, true, true, true, true, false, false, false, false, true, true, true, true, true, false, false, false, false, false, false] rfl rfl (by kernel_rfl) (fun _ _ _ h => h) (Or.inl ⟨by rfl, ?_⟩) ?_ ?_
      rotate_left
      · intro w'
        go_simp
        with_reducible rfl
      rotate_left
      · simp only [Act.put, List.setIfInBounds_toArray, List.set_cons_zero, List.set_cons_succ, i64_w, i32_w]
        rfl
      refine pure_ (i := 16) (N := some 33) (v := ?_) (a' := ?_) #[true, true, true, true, true, true, true, true, true, true, true, true, true, true, true, true, true, true, true, true, true, true, false, false, false, false, true, true, true, true, true, false, false, false, false, false, false] rfl rfl (by kernel_rfl) (fun _ _ _ h => h) (Or.inl ⟨by rfl, ?_⟩) ?_ ?_
      rotate_left
      · intro w'
        go_simp
        with_reducible rfl
      rotate_left
      · simp only [Act.put, List.setIfInBounds_toArray, List.set_cons_zero, List.set_cons_succ, i64_w, i32_w]
        rfl
      refine take_ (i := 22) (N := some 39) (v := ?_) (a' := ?_) #[true, true, true, true, true, true, true, true, true, true, true, true, true, true, true, true, true, true, true, true, true, true, true, false, false, false, true, true, true, true, true, false, false, false, false, false, false] rfl rfl (by kernel_rfl) (fun _ _ _ h => h) (Or.inl ⟨by rfl, ?_⟩) hHeld ?_ ?_
      rotate_left
      · rintro w' ⟨s0, s1, s2, s3⟩
        go_simp
        with_reducible rfl
      rotate_left
      · simp only [Act.put, List.setIfInBounds_toArray, List.set_cons_zero, List.set_cons_succ, i64_w, i32_w]
        rfl
      refine pure_ (i := 23) (N := some 40) (v := ?_) (a' := ?_) #[true, true, true, true, true, true, true, true, true, true, true, true, true, true, true, true, true, true, true, true, true, true, true, true, false, false, true, true, true, true, true, false, false, false, false, false, false] rfl rfl (by kernel_rfl) (fun _ _ _ h => h) (Or.inl ⟨by rfl, ?_⟩) ?_ ?_
      rotate_left
      · intro w'
        go_simp
        with_reducible rfl
      rotate_left
      · simp only [Act.put, List.setIfInBounds_toArray, List.set_cons_zero, List.set_cons_succ, i64_w, i32_w]
        rfl
      refine pure_ (i := 24) (N := some 41) (v := ?_) (a' := ?_) #[true, true, true, true, true, true, true, true, true, true, true, true, true, true, true, true, true, true, true, true, true, true, true, true, true, false, true, true, true, true, true, false, false, false, false, false, false] rfl rfl (by kernel_rfl) (fun _ _ _ h => h) (Or.inl ⟨by rfl, ?_⟩) ?_ ?_
      rotate_left
      · intro w'
        go_simp
        with_reducible rfl
      rotate_left
      · simp only [Act.put, List.setIfInBounds_toArray, List.set_cons_zero, List.set_cons_succ, i64_w, i32_w]
        rfl
      refine pure_ (i := 25) (N := some 42) (v := ?_) (a' := ?_) #[true, true, true, true, true, true, true, true, true, true, true, true, true, true, true, true, true, true, true, true, true, true, true, true, true, true, true, true, true, true, true, false, false, false, false, false, false] rfl rfl (by kernel_rfl) (fun _ _ _ h => h) (Or.inl ⟨by rfl, ?_⟩) ?_ ?_
      rotate_left
      · intro w'
        go_simp
        with_reducible rfl
      rotate_left
      · simp only [Act.put, List.setIfInBounds_toArray, List.set_cons_zero, List.set_cons_succ, i64_w, i32_w]
        rfl
      refine take_ (i := 31) (N := some 48) (v := ?_) (a' := ?_) #[true, true, true, true, true, true, true, true, true, true, true, true, true, true, true, true, true, true, true, true, true, true, true, true, true, true, true, true, true, true, true, true, false, false, false, false, false] rfl rfl (by kernel_rfl) (fun _ _ _ h => h) (Or.inl ⟨by rfl, ?_⟩) hHeld ?_ ?_
      rotate_left
      · rintro w' ⟨s0, s1, s2, s3⟩
        go_simp
        with_reducible rfl
      rotate_left
      · simp only [Act.put, List.setIfInBounds_toArray, List.set_cons_zero, List.set_cons_succ, i64_w, i32_w]
        rfl
      refine pure_ (i := 32) (N := some 49) (v := ?_) (a' := ?_) #[true, true, true, true, true, true, true, true, true, true, true, true, true, true, true, true, true, true, true, true, true, true, true, true, true, true, true, true, true, true, true, true, true, false, false, false, false] rfl rfl (by kernel_rfl) (fun _ _ _ h => h) (Or.inl ⟨by rfl, ?_⟩) ?_ ?_
      rotate_left
      · intro w'
        go_simp
        with_reducible rfl
      rotate_left
      · simp only [Act.put, List.setIfInBounds_toArray, List.set_cons_zero, List.set_cons_succ, i64_w, i32_w]
        rfl
      refine pure_ (i := 33) (N := some 50) (v := ?_) (a' := ?_) #[true, true, true, true, true, true, true, true, true, true, true, true, true, true, true, true, true, true, true, true, true, true, true, true, true, true, true, true, true, true, true, true, true, true, false, false, false] rfl rfl (by kernel_rfl) (fun _ _ _ h => h) (Or.inl ⟨by rfl, ?_⟩) ?_ ?_
      rotate_left
      · intro w'
        go_simp
        with_reducible rfl
      rotate_left
      · simp only [Act.put, List.setIfInBounds_toArray, List.set_cons_zero, List.set_cons_succ, i64_w, i32_w]
        rfl
      refine one_ (i := 34) (N := some 51) #[true, true, true, true, true, true, true, true, true, true, true, true, true, true, true, true, true, true, true, true, true, true, true, true, true, true, true, true, true, true, true, true, true, true, true, false, false] rfl rfl (by kernel_rfl) (by decide) (fun K hK => ?_)
      refine Kd.R_lit_step (Kd.int .u32) _ 41 (by rfl) (N := 51) (by rfl) (xs := ([(IntKind.u32.wrap (IntKind.u32.wrap (IntKind.u32.wrap (IntKind.u32.wrap (IntKind.u32.wrap (IntKind.u32.wrap (IntKind.u32.wrap x0 * 256) + IntKind.u32.wrap x1) * 256) + IntKind.u32.wrap x2) * 256) + IntKind.u32.wrap x3))] : List Int)) (inner := [.int .u32 (IntKind.u32.wrap (IntKind.u32.wrap (IntKind.u32.wrap (IntKind.u32.wrap (IntKind.u32.wrap (IntKind.u32.wrap (IntKind.u32.wrap x0 * 256) + IntKind.u32.wrap x1) * 256) + IntKind.u32.wrap x2) * 256) + IntKind.u32.wrap x3))]) (ok := fun _ => True) (okp := fun _ => True) ?hr ?hp (fun _ hk => hk) trivial B5.out (below_size B5.out) (by simp) ?_
      (case hr => first | (go_simp; done) | (go_simp; rfl))
      (case hp => exact reps_ints .u32 _)
      intro vl_ w6 hO_ hb_ hg_ _
      obtain ⟨gl, cl, rfl, hle_, hC_⟩ := row_form hO_ (n := 1) rfl (by decide)
      have B6 := Aside0.mk hb_
      have CL6 := Aside0.mk hC_
      have HO6 := Aside0.mk (Kd.R_grown HO5.out hg_ (by simp))
      have HA26 := Aside0.mk (blk_grown HA25.out hg_ (by simp))
      have HA46 := Aside0.mk (blk_grown HA45.out hg_ (by simp))
      clear hO_ hb_ hg_ hle_ hC_ B5 HO5 HA25 HA45
      refine hK.out _ _ ⟨(C_getb (Kd.C_below HR.out B6.out) HL.out (4 * t) (ix_l t 0 n hk (by decide) HN.out) HX0.out), (add_cell <| C_getb (Kd.C_below HR.out B6.out) HL.out (4 * t + 1) (ix_l t 1 n hk (by decide) HN.out) HX1.out), (add_cell <| C_getb (Kd.C_below HR.out B6.out) HL.out (4 * t + 2) (ix_l t 2 n hk (by decide) HN.out) HX2.out), (add_cell <| C_getb (Kd.C_below HR.out B6.out) HL.out (4 * t + 3) (ix_l t 3 n hk (by decide) HN.out) HX3.out)⟩ (fun hHeld => ?_)
      clear hK K
      refine norm_ (a' := ?_) ?_ ?_
      rotate_left
      · show Act.put _ (some 51) _ = _
        simp only [Act.put, List.setIfInBounds_toArray, List.set_cons_zero, List.set_cons_succ, i64_w, i32_w]
        rfl
      refine one_ (i := 35) (N := some 52) #[true, true, true, true, true, true, true, true, true, true, true, true, true, true, true, true, true, true, true, true, true, true, true, true, true, true, true, true, true, true, true, true, true, true, true, true, false] rfl rfl (by kernel_rfl) (by decide) (fun K hK => ?_)
      refine Kd.R_append_rows_step (Kd.int .u32) (w0 := w) w.heap.size (by rfl) (.tmp 17) (.tmp 51) 122 41 (.int .u32 0) 4 rfl Tryd.underlying122 info41 rfl (by decide) (by omega) _ (wd l t) [(IntKind.u32.wrap (IntKind.u32.wrap (IntKind.u32.wrap (IntKind.u32.wrap (IntKind.u32.wrap (IntKind.u32.wrap (IntKind.u32.wrap x0 * 256) + IntKind.u32.wrap x1) * 256) + IntKind.u32.wrap x2) * 256) + IntKind.u32.wrap x3))] _ _ _ (fun _ => True) (fun _ => False) rfl rfl ?aO ?aR (fun _ _ h => h) (fun _ h => h.elim) ?aF ?aB ?aS ?aL ?_
      (case aR => exact CL6.out)
      (case aB => exact B6.out)
      (case aF => exact (fun _ _ => trivial))
      (case aO => exact HO6.out)
      (case aS => exact below_size B6.out)
      (case aL => have := wd_length l t; simp only [List.length_cons, List.length_nil] at *; omega)
      intro v7 w7 ho_ hb_ hg_ _
      have HO7 := Aside0.mk ho_
      have HA27 := Aside0.mk (blk_grown HA26.out hg_ (Kd.R_ne HO6.out HA26.out (by decide)))
      have HA47 := Aside0.mk (blk_grown HA46.out hg_ (Kd.R_ne HO6.out HA46.out (by decide)))
      have B7 := Aside0.mk hb_
      clear ho_ hb_ hg_ B6 HO6 CL6 HA26 HA46
      refine hK.out _ _ ⟨(C_getb (Kd.C_below HR.out B7.out) HL.out (4 * t) (ix_l t 0 n hk (by decide) HN.out) HX0.out), (add_cell <| C_getb (Kd.C_below HR.out B7.out) HL.out (4 * t + 1) (ix_l t 1 n hk (by decide) HN.out) HX1.out), (add_cell <| C_getb (Kd.C_below HR.out B7.out) HL.out (4 * t + 2) (ix_l t 2 n hk (by decide) HN.out) HX2.out), (add_cell <| C_getb (Kd.C_below HR.out B7.out) HL.out (4 * t + 3) (ix_l t 3 n hk (by decide) HN.out) HX3.out)⟩ (fun hHeld => ?_)
      clear hK K
      refine norm_ (a' := ?_) ?_ ?_
      rotate_left
      · show Act.put _ (some 52) _ = _
        simp only [Act.put, List.setIfInBounds_toArray, List.set_cons_zero, List.set_cons_succ, i64_w, i32_w]
        rfl
      refine pure_ (i := 36) (N := some 5) (v := ?_) (a' := ?_) #[true, true, true, true, true, true, true, true, true, true, true, true, true, true, true, true, true, true, true, true, true, true, true, true, true, true, true, true, true, true, true, true, true, true, true, true, true] rfl rfl (by kernel_rfl) (fun _ _ _ h => h) (Or.inl ⟨by rfl, ?_⟩) ?_ ?_
      rotate_left
      · intro w'
        go_simp
        with_reducible rfl
      rotate_left
      · simp only [Act.put, List.setIfInBounds_toArray, List.set_cons_zero, List.set_cons_succ, i64_w, i32_w]
        rfl
      refine done_ (by kernel_rfl) ?_
      clear hHeld xw0 xp0 xq0 xn0 xw1 xp1 xq1 xn1 xw2 xp2 xq2 xn2 xw3 xp3 xq3 xn3
      go_wp2_with fail
      go_roundg go
      case measure => have := HK.out; omega
      case rel => exact ⟨t + 1, by go_num, ⟨by have := HK.out; omega⟩, ⟨by have := HO7.out; rw [← HX0.out, ← HX1.out, ← HX2.out, ← HX3.out] at this; exact this⟩, HA27, HA47, B7⟩
    · obtain rfl : t = 16 := by have := HK.out; omega
      simp only [show ((16 : Nat) : Int) = 16 from rfl]
      go_wp2_with fail
      go_loopg [5, 7] 64 (fun n v5 v7 w' => ∃ (t : Nat), v7 = .int .i64 (t : Int) ∧ Aside0 (t + n = 80) ∧ Aside0 (16 ≤ t) ∧ Aside0 (Kd.R (Kd.int .u32) 41 w' w.heap.size (fun _ => True) v5 (wx l (t - 16))) ∧ Aside0 (w'.heap[g1]? = some (.cells #[.int .u32 h0, .int .u32 h1, .int .u32 h2, .int .u32 h3, .int .u32 h4] 42 (0, 0))) ∧ Aside0 (w'.heap[g6]? = some (.cells #[.int .u32 0, .int .u32 0, .int .u32 0, .int .u32 0, .int .u32 0] 42 (0, 0))) ∧ Aside0 (Below w.heap.size w w'))
      case atStart => exact ⟨16, rfl, ⟨rfl⟩, ⟨Nat.le_refl _⟩, HO, HA2, HA4, BB⟩
      case round =>
        clear HO HA2 HA4 BB
        obtain ⟨t, rfl, HK, H16, HO, HA2, HA4, BB⟩ := hrel
        have HWL := Aside0.mk (show (wx l (t - 16)).length = t by rw [wx_length]; have := H16.out; omega)
        obtain ⟨gr, cr, rfl, hle_, hC_⟩ := row_form HO.out HWL.out (by have := H16.out; omega)
        clear hC_ hle_
        by_cases hk : t < 80
        · obtain ⟨go, rfl⟩ : ∃ j, gk = j + 1 := ⟨gk - 1, by have := HK.out; omega⟩
          have ht1 : ((t : Int) < 80) = True := eq_true (by omega)
          have h16 := H16.out
          have yw3 : wrap64 ((t : Int) - 3) = (t : Int) - 3 := iy_w t 3 hk (by decide) h16
          have yp3 : (3 ≤ (t : Int)) = True := iy_z t 3 (by decide) h16
          have yq3 : ((t : Int) - 3 < (t : Int)) = True := iy_q t 3 (by decide) h16
          have yn3 : ((t : Int) - 3).toNat = t - 3 := iy_n t 3
          obtain ⟨y3, hy3⟩ : ∃ v : Int, (wx l (t - 16)).getD (t - 3) 0 = v := ⟨_, rfl⟩
          have HX3 := Aside0.mk hy3
          clear hy3
          have yw8 : wrap64 ((t : Int) - 8) = (t : Int) - 8 := iy_w t 8 hk (by decide) h16
          have yp8 : (8 ≤ (t : Int)) = True := iy_z t 8 (by decide) h16
          have yq8 : ((t : Int) - 8 < (t : Int)) = True := iy_q t 8 (by decide) h16
          have yn8 : ((t : Int) - 8).toNat = t - 8 := iy_n t 8
          obtain ⟨y8, hy8⟩ : ∃ v : Int, (wx l (t - 16)).getD (t - 8) 0 = v := ⟨_, rfl⟩
          have HX8 := Aside0.mk hy8
          clear hy8
          have yw14 : wrap64 ((t : Int) - 14) = (t : Int) - 14 := iy_w t 14 hk (by decide) h16
          have yp14 : (14 ≤ (t : Int)) = True := iy_z t 14 (by decide) h16
          have yq14 : ((t : Int) - 14 < (t : Int)) = True := iy_q t 14 (by decide) h16
          have yn14 : ((t : Int) - 14).toNat = t - 14 := iy_n t 14
          obtain ⟨y14, hy14⟩ : ∃ v : Int, (wx l (t - 16)).getD (t - 14) 0 = v := ⟨_, rfl⟩
          have HX14 := Aside0.mk hy14
          clear hy14
          have yw16 : wrap64 ((t : Int) - 16) = (t : Int) - 16 := iy_w t 16 hk (by decide) h16
          have yp16 : (16 ≤ (t : Int)) = True := iy_z t 16 (by decide) h16
          have yq16 : ((t : Int) - 16 < (t : Int)) = True := iy_q t 16 (by decide) h16
          have yn16 : ((t : Int) - 16).toNat = t - 16 := iy_n t 16
          obtain ⟨y16, hy16⟩ : ∃ v : Int, (wx l (t - 16)).getD (t - 16) 0 = v := ⟨_, rfl⟩
          have HX16 := Aside0.mk hy16
          clear hy16
          go_wp2_with fail
          have HA25 := Aside0.mk (blk_drew HA2.out)
          have HA45 := Aside0.mk (blk_drew HA4.out)
          have HO5 := Aside0.mk (Kd.R_drew HO.out)
          have B5 := Aside0.mk (below_drew BB.out)
          clear HA2 HA4 HO BB
          refine start_ (n := 28) (S := fun w' => w'.cell? ⟨gr, t - 3, none⟩ = some (.int .u32 y3) ∧ w'.cell? ⟨gr, t - 8, none⟩ = some (.int .u32 y8) ∧ w'.cell? ⟨gr, t - 14, none⟩ = some (.int .u32 y14) ∧ w'.cell? ⟨gr, t - 16, none⟩ = some (.int .u32 y16)) (ds := [26]) #[false, false, false, false, false, false, false, false, false, false, false, false, false, false, false, false, false, false, false, false, false, false, false, false, false, false, false, false] (by kernel_rfl) rfl rfl ⟨(row_cell HO5.out (t - 3) (iy_l t 3 _ (by decide) h16 HWL.out) HX3.out), (row_cell HO5.out (t - 8) (iy_l t 8 _ (by decide) h16 HWL.out) HX8.out), (row_cell HO5.out (t - 14) (iy_l t 14 _ (by decide) h16 HWL.out) HX14.out), (row_cell HO5.out (t - 16) (iy_l t 16 _ (by decide) h16 HWL.out) HX16.out)⟩ (fun hHeld => ?_)
          generalize World.drew wr = w5 at HA25 HA45 HO5 B5 hHeld ⊢
          refine pure_ (i := 0) (N := some 57) (v := ?_) (a' := ?_) #[true, false, false, false, false, false, false, false, false, false, false, false, false, false, false, false, false, false, false, false, false, false, false, false, false, false, false, false] rfl rfl (by kernel_rfl) (fun _ _ _ h => h) (Or.inl ⟨by rfl, ?_⟩) ?_ ?_
          rotate_left
          · intro w'
            go_simp
            with_reducible rfl
          rotate_left
          · simp only [Act.put, List.setIfInBounds_toArray, List.set_cons_zero, List.set_cons_succ, i64_w, i32_w]
            rfl
          refine pure_ (i := 1) (N := some 58) (v := ?_) (a' := ?_) #[true, true, false, false, false, false, false, false, false, false, false, false, false, false, false, false, false, false, false, false, false, false, false, false, false, false, false, false] rfl rfl (by kernel_rfl) (fun _ _ _ h => h) (Or.inl ⟨by rfl, ?_⟩) ?_ ?_
          rotate_left
          · intro w'
            go_simp
            with_reducible rfl
          rotate_left
          · simp only [Act.put, List.setIfInBounds_toArray, List.set_cons_zero, List.set_cons_succ, i64_w, i32_w]
            rfl
          refine pure_ (i := 2) (N := some 59) (v := ?_) (a' := ?_) #[true, true, true, false, false, false, false, false, false, false, false, false, false, false, false, false, false, false, false, false, false, false, false, false, false, false, false, false] rfl rfl (by kernel_rfl) (fun _ _ _ h => h) (Or.inl ⟨by rfl, ?_⟩) ?_ ?_
          rotate_left
          · intro w'
            go_simp
            with_reducible rfl
          rotate_left
          · simp only [Act.put, List.setIfInBounds_toArray, List.set_cons_zero, List.set_cons_succ, i64_w, i32_w]
            rfl
          refine pure_ (i := 3) (N := some 60) (v := ?_) (a' := ?_) #[true, true, true, true, false, false, false, false, false, false, false, false, false, false, false, false, false, false, false, false, false, false, false, false, false, false, false, false] rfl rfl (by kernel_rfl) (fun _ _ _ h => h) (Or.inl ⟨by rfl, ?_⟩) ?_ ?_
          rotate_left
          · intro w'
            go_simp
            with_reducible rfl
          rotate_left
          · simp only [Act.put, List.setIfInBounds_toArray, List.set_cons_zero, List.set_cons_succ, i64_w, i32_w]
            rfl
          refine pure_ (i := 4) (N := some 61) (v := ?_) (a' := ?_) #[true, true, true, true, true, false, false, false, false, false, false, false, false, false, false, false, false, false, false, false, false, false, false, false, false, false, false, false] rfl rfl (by kernel_rfl) (fun _ _ _ h => h) (Or.inl ⟨by rfl, ?_⟩) ?_ ?_
          rotate_left
          · intro w'
            go_simp
            with_reducible rfl
          rotate_left
          · simp only [Act.put, List.setIfInBounds_toArray, List.set_cons_zero, List.set_cons_succ, i64_w, i32_w]
            rfl
          refine pure_ (i := 6) (N := some 63) (v := ?_) (a' := ?_) #[true, true, true, true, true, false, true, false, false, false, false, false, false, false, false, false, false, false, false, false, false, false, false, false, false, false, false, false] rfl rfl (by kernel_rfl) (fun _ _ _ h => h) (Or.inl ⟨by rfl, ?_⟩) ?_ ?_
          rotate_left
          · intro w'
            go_simp
            with_reducible rfl
          rotate_left
          · simp only [Act.put, List.setIfInBounds_toArray, List.set_cons_zero, List.set_cons_succ, i64_w, i32_w]
            rfl
          refine pure_ (i := 7) (N := some 64) (v := ?_) (a' := ?_) #[true, true, true, true, true, false, true, true, false, false, false, false, false, false, false, false, false, false, false, false, false, false, false, false, false, false, false, false] rfl rfl (by kernel_rfl) (fun _ _ _ h => h) (Or.inl ⟨by rfl, ?_⟩) ?_ ?_
          rotate_left
          · intro w'
            go_simp
            with_reducible rfl
          rotate_left
          · simp only [Act.put, List.setIfInBounds_toArray, List.set_cons_zero, List.set_cons_succ, i64_w, i32_w]
            rfl
          refine pure_ (i := 8) (N := some 65) (v := ?_) (a' := ?_) #[true, true, true, true, true, false, true, true, true, false, false, false, false, false, false, false, false, false, false, false, false, false, false, false, false, false, false, false] rfl rfl (by kernel_rfl) (fun _ _ _ h => h) (Or.inl ⟨by rfl, ?_⟩) ?_ ?_
          rotate_left
          · intro w'
            go_simp
            with_reducible rfl
          rotate_left
          · simp only [Act.put, List.setIfInBounds_toArray, List.set_cons_zero, List.set_cons_succ, i64_w, i32_w]
            rfl
          refine pure_ (i := 9) (N := some 66) (v := ?_) (a' := ?_) #[true, true, true, true, true, false, true, true, true, true, false, false, false, false, false, false, false, false, false, false, false, false, false, false, false, false, false, false] rfl rfl (by kernel_rfl) (fun _ _ _ h => h) (Or.inl ⟨by rfl, ?_⟩) ?_ ?_
          rotate_left
          · intro w'
            go_simp
            with_reducible rfl
          rotate_left
          · simp only [Act.put, List.setIfInBounds_toArray, List.set_cons_zero, List.set_cons_succ, i64_w, i32_w]
            rfl
          refine pure_ (i := 12) (N := some 69) (v := ?_) (a' := ?_) #[true, true, true, true, true, false, true, true, true, true, false, false, true, false, false, false, false, false, false, false, false, false, false, false, false, false, false, false] rfl rfl (by kernel_rfl) (fun _ _ _ h => h) (Or.inl ⟨by rfl, ?_⟩) ?_ ?_
          rotate_left
          · intro w'
            go_simp
            with_reducible rfl
          rotate_left
          · simp only [Act.put, List.setIfInBounds_toArray, List.set_cons_zero, List.set_cons_succ, i64_w, i32_w]
            rfl
          refine pure_ (i := 13) (N := some 70) (v := ?_) (a' := ?_) #[true, true, true, true, true, false, true, true, true, true, false, false, true, true, false, false, false, false, false, false, false, false, false, false, false, false, false, false] rfl rfl (by kernel_rfl) (fun _ _ _ h => h) (Or.inl ⟨by rfl, ?_⟩) ?_ ?_
          rotate_left
          · intro w'
            go_simp
            with_reducible rfl
          rotate_left
          · simp only [Act.put, List.setIfInBounds_toArray, List.set_cons_zero, List.set_cons_succ, i64_w, i32_w]
            rfl
          refine pure_ (i := 14) (N := some 71) (v := ?_) (a' := ?_) #[true, true, true, true, true, false, true, true, true, true, false, false, true, true, true, false, false, false, false, false, false, false, false, false, false, false, false, false] rfl rfl (by kernel_rfl) (fun _ _ _ h => h) (Or.inl ⟨by rfl, ?_⟩) ?_ ?_
          rotate_left
          · intro w'
            go_simp
            with_reducible rfl
          rotate_left
          · simp only [Act.put, List.setIfInBounds_toArray, List.set_cons_zero, List.set_cons_succ, i64_w, i32_w]
            rfl
          refine pure_ (i := 15) (N := some 72) (v := ?_) (a' := ?_) #[true, true, true, true, true, false, true, true, true, true, false, false, true, true, true, true, false, false, false, false, false, false, false, false, false, false, false, false] rfl rfl (by kernel_rfl) (fun _ _ _ h => h) (Or.inl ⟨by rfl, ?_⟩) ?_ ?_
          rotate_left
          · intro w'
            go_simp
            with_reducible rfl
          rotate_left
          · simp only [Act.put, List.setIfInBounds_toArray, List.set_cons_zero, List.set_cons_succ, i64_w, i32_w]
            rfl
          refine pure_ (i := 18) (N := some 75) (v := ?_) (a' := ?_) #[true, true, true, true, true, false, true, true, true, true, false, false, true, true, true, true, false, false, true, false, false, false, false, false, false, false, false, false] rfl rfl (by kernel_rfl) (fun _ _ _ h => h) (Or.inl ⟨by rfl, ?_⟩) ?_ ?_
          rotate_left
          · intro w'
            go_simp
            with_reducible rfl
          rotate_left
          · simp only [Act.put, List.setIfInBounds_toArray, List.set_cons_zero, List.set_cons_succ, i64_w, i32_w]
            rfl
          refine pure_ (i := 19) (N := some 76) (v := ?_) (a' := ?_) #[true, true, true, true, true, false, true, true, true, true, false, false, true, true, true, true, false, false, true, true, false, false, false, false, false, false, false, false] rfl rfl (by kernel_rfl) (fun _ _ _ h => h) (Or.inl ⟨by rfl, ?_⟩) ?_ ?_
          rotate_left
          · intro w'
            go_simp
            with_reducible rfl
          rotate_left
          · simp only [Act.put, List.setIfInBounds_toArray, List.set_cons_zero, List.set_cons_succ, i64_w, i32_w]
            rfl
          refine pure_ (i := 20) (N := some 77) (v := ?_) (a' := ?_) #[true, true, true, true, true, false, true, true, true, true, false, false, true, true, true, true, false, false, true, true, true, false, false, false, false, false, false, false] rfl rfl (by kernel_rfl) (fun _ _ _ h => h) (Or.inl ⟨by rfl, ?_⟩) ?_ ?_
          rotate_left
          · intro w'
            go_simp
            with_reducible rfl
          rotate_left
          · simp only [Act.put, List.setIfInBounds_toArray, List.set_cons_zero, List.set_cons_succ, i64_w, i32_w]
            rfl
          refine pure_ (i := 21) (N := some 78) (v := ?_) (a' := ?_) #[true, true, true, true, true, false, true, true, true, true, false, false, true, true, true, true, false, false, true, true, true, true, false, false, false, false, false, false] rfl rfl (by kernel_rfl) (fun _ _ _ h => h) (Or.inl ⟨by rfl, ?_⟩) ?_ ?_
          rotate_left
          · intro w'
            go_simp
            with_reducible rfl
          rotate_left
          · simp only [Act.put, List.setIfInBounds_toArray, List.set_cons_zero, List.set_cons_succ, i64_w, i32_w]
            rfl
          refine take_ (i := 5) (N := some 62) (v := ?_) (a' := ?_) #[true, true, true, true, true, true, true, true, true, true, false, false, true, true, true, true, false, false, true, true, true, true, false, false, false, false, false, false] rfl rfl (by kernel_rfl) (fun _ _ _ h => h) (Or.inl ⟨by rfl, ?_⟩) hHeld ?_ ?_
          rotate_left
          · rintro w' ⟨s0, s1, s2, s3⟩
            go_simp
            with_reducible rfl
          rotate_left
          · simp only [Act.put, List.setIfInBounds_toArray, List.set_cons_zero, List.set_cons_succ, i64_w, i32_w]
            rfl
          refine take_ (i := 10) (N := some 67) (v := ?_) (a' := ?_) #[true, true, true, true, true, true, true, true, true, true, true, false, true, true, true, true, false, false, true, true, true, true, false, false, false, false, false, false] rfl rfl (by kernel_rfl) (fun _ _ _ h => h) (Or.inl ⟨by rfl, ?_⟩) hHeld ?_ ?_
          rotate_left
          · rintro w' ⟨s0, s1, s2, s3⟩
            go_simp
            with_reducible rfl
          rotate_left
          · simp only [Act.put, List.setIfInBounds_toArray, List.set_cons_zero, List.set_cons_succ, i64_w, i32_w]
            rfl
          refine pure_ (i := 11) (N := some 68) (v := ?_) (a' := ?_) #[true, true, true, true, true, true, true, true, true, true, true, true, true, true, true, true, false, false, true, true, true, true, false, false, false, false, false, false] rfl rfl (by kernel_rfl) (fun _ _ _ h => h) (Or.inl ⟨by rfl, ?_⟩) ?_ ?_
          rotate_left
          · intro w'
            go_simp
            with_reducible rfl
          rotate_left
          · simp only [Act.put, List.setIfInBounds_toArray, List.set_cons_zero, List.set_cons_succ, i64_w, i32_w]
            rfl
          refine take_ (i := 16) (N := some 73) (v := ?_) (a' := ?_) #[true, true, true, true, true, true, true, true, true, true, true, true, true, true, true, true, true, false, true, true, true, true, false, false, false, false, false, false] rfl rfl (by kernel_rfl) (fun _ _ _ h => h) (Or.inl ⟨by rfl, ?_⟩) hHeld ?_ ?_
          rotate_left
          · rintro w' ⟨s0, s1, s2, s3⟩
            go_simp
            with_reducible rfl
          rotate_left
          · simp only [Act.put, List.setIfInBounds_toArray, List.set_cons_zero, List.set_cons_succ, i64_w, i32_w]
            rfl
          refine pure_ (i := 17) (N := some 74) (v := ?_) (a' := ?_) #[true, true, true, true, true, true, true, true, true, true, true, true, true, true, true, true, true, true, true, true, true, true, false, false, false, false, false, false] rfl rfl (by kernel_rfl) (fun _ _ _ h => h) (Or.inl ⟨by rfl, ?_⟩) ?_ ?_
          rotate_left
          · intro w'
            go_simp
            with_reducible rfl
          rotate_left
          · simp only [Act.put, List.setIfInBounds_toArray, List.set_cons_zero, List.set_cons_succ, i64_w, i32_w]
            rfl
          refine take_ (i := 22) (N := some 79) (v := ?_) (a' := ?_) #[true, true, true, true, true, true, true, true, true, true, true, true, true, true, true, true, true, true, true, true, true, true, true, false, false, false, false, false] rfl rfl (by kernel_rfl) (fun _ _ _ h => h) (Or.inl ⟨by rfl, ?_⟩) hHeld ?_ ?_
          rotate_left
          · rintro w' ⟨s0, s1, s2, s3⟩
            go_simp
            with_reducible rfl
          rotate_left
          · simp only [Act.put, List.setIfInBounds_toArray, List.set_cons_zero, List.set_cons_succ, i64_w, i32_w]
            rfl
          refine pure_ (i := 23) (N := some 80) (v := ?_) (a' := ?_) #[true, true, true, true, true, true, true, true, true, true, true, true, true, true, true, true, true, true, true, true, true, true, true, true, false, false, false, false] rfl rfl (by kernel_rfl) (fun _ _ _ h => h) (Or.inl ⟨by rfl, ?_⟩) ?_ ?_
          rotate_left
          · intro w'
            go_simp
            with_reducible rfl
          rotate_left
          · simp only [Act.put, List.setIfInBounds_toArray, List.set_cons_zero, List.set_cons_succ, i64_w, i32_w]
            rfl
          refine one_ (i := 24) (N := some 81) #[true, true, true, true, true, true, true, true, true, true, true, true, true, true, true, true, true, true, true, true, true, true, true, true, true, false, false, false] rfl rfl (by kernel_rfl) (by decide) (fun K hK => ?_)
          refine goes_ Tryd.func93 (by kernel_rfl) rfl #[.int .u32 (Go.bits .xor .u32 (Go.bits .xor .u32 (Go.bits .xor .u32 y3 y8) y14) y16), .int .i64 1] (by rfl) rfl rfl (by simp only [List.map_toArray, List.map_cons, List.map_nil]; rfl) ?_
          with_reducible refine (turn1_calls _ _).mono ?_
          rintro e_ w6 ⟨rfl, hb_⟩
          refine ⟨_, rfl, ?_⟩
          have HA26 := Aside0.mk (blk_below HA25.out hb_)
          have HA46 := Aside0.mk (blk_below HA45.out hb_)
          have HO6 := Aside0.mk (Kd.R_below HO5.out hb_)
          have B6 := Aside0.mk (below_step B5.out hb_)
          clear hb_ HA25 HA45 HO5 B5
          refine hK.out _ _ ⟨(row_cell HO6.out (t - 3) (iy_l t 3 _ (by decide) h16 HWL.out) HX3.out), (row_cell HO6.out (t - 8) (iy_l t 8 _ (by decide) h16 HWL.out) HX8.out), (row_cell HO6.out (t - 14) (iy_l t 14 _ (by decide) h16 HWL.out) HX14.out), (row_cell HO6.out (t - 16) (iy_l t 16 _ (by decide) h16 HWL.out) HX16.out)⟩ (fun hHeld => ?_)
          clear hK K
          refine norm_ (a' := ?_) ?_ ?_
          rotate_left
          · show Act.put _ (some 81) _ = _
            simp only [Act.put, List.setIfInBounds_toArray, List.set_cons_zero, List.set_cons_succ, i64_w, i32_w]
            rfl
          refine one_ (i := 25) (N := some 82) #[true, true, true, true, true, true, true, true, true, true, true, true, true, true, true, true, true, true, true, true, true, true, true, true, true, true, false, false] rfl rfl (by kernel_rfl) (by decide) (fun K hK => ?_)
          refine Kd.R_lit_step (Kd.int .u32) _ 41 (by rfl) (N := 82) (by rfl) (xs := ([(rot 1 (Go.bits .xor .u32 (Go.bits .xor .u32 (Go.bits .xor .u32 y3 y8) y14) y16))] : List Int)) (inner := [.int .u32 (rot 1 (Go.bits .xor .u32 (Go.bits .xor .u32 (Go.bits .xor .u32 y3 y8) y14) y16))]) (ok := fun _ => True) (okp := fun _ => True) ?hr ?hp (fun _ hk => hk) trivial B6.out (below_size B6.out) (by simp) ?_
          (case hr => first | (go_simp; done) | (go_simp; rfl))
          (case hp => exact reps_ints .u32 _)
          intro vl_ w8 hO_ hb_ hg_ _
          obtain ⟨gl, cl, rfl, hle_, hC_⟩ := row_form hO_ (n := 1) rfl (by decide)
          have B8 := Aside0.mk hb_
          have CL8 := Aside0.mk hC_
          have HO8 := Aside0.mk (Kd.R_grown HO6.out hg_ (by simp))
          have HA28 := Aside0.mk (blk_grown HA26.out hg_ (by simp))
          have HA48 := Aside0.mk (blk_grown HA46.out hg_ (by simp))
          clear hO_ hb_ hg_ hle_ hC_ B6 HO6 HA26 HA46
          refine hK.out _ _ ⟨(row_cell HO8.out (t - 3) (iy_l t 3 _ (by decide) h16 HWL.out) HX3.out), (row_cell HO8.out (t - 8) (iy_l t 8 _ (by decide) h16 HWL.out) HX8.out), (row_cell HO8.out (t - 14) (iy_l t 14 _ (by decide) h16 HWL.out) HX14.out), (row_cell HO8.out (t - 16) (iy_l t 16 _ (by decide) h16 HWL.out) HX16.out)⟩ (fun hHeld => ?_)
          clear hK K
          refine norm_ (a' := ?_) ?_ ?_
          rotate_left
          · show Act.put _ (some 82) _ = _
            simp only [Act.put, List.setIfInBounds_toArray, List.set_cons_zero, List.set_cons_succ, i64_w, i32_w]
            rfl
          refine last_ (i := 26) (N := some 83) #[true, true, true, true, true, true, true, true, true, true, true, true, true, true, true, true, true, true, true, true, true, true, true, true, true, true, true, false] rfl rfl (by kernel_rfl) (by decide) (fun K hK => ?_)
          refine Kd.R_append_rows_step (Kd.int .u32) (w0 := w) w.heap.size (by rfl) (.tmp 57) (.tmp 82) 122 41 (.int .u32 0) 4 rfl Tryd.underlying122 info41 rfl (by decide) (by omega) _ (wx l (t - 16)) [(rot 1 (Go.bits .xor .u32 (Go.bits .xor .u32 (Go.bits .xor .u32 y3 y8) y14) y16))] _ _ _ (fun _ => True) (fun _ => False) rfl rfl ?aO ?aR (fun _ _ h => h) (fun _ h => h.elim) ?aF ?aB ?aS ?aL ?_
          (case aR => exact CL8.out)
          (case aB => exact B8.out)
          (case aF => exact (fun _ _ => trivial))
          (case aO => exact HO8.out)
          (case aS => exact below_size B8.out)
          (case aL => have := HWL.out; omega)
          intro v7 w7 ho_ hb_ hg_ _
          have HO7 := Aside0.mk ho_
          have HA27 := Aside0.mk (blk_grown HA28.out hg_ (Kd.R_ne HO8.out HA28.out (by decide)))
          have HA47 := Aside0.mk (blk_grown HA48.out hg_ (Kd.R_ne HO8.out HA48.out (by decide)))
          have B7 := Aside0.mk hb_
          clear ho_ hb_ hg_ B8 HO8 CL8 HA28 HA48
          refine hK.out _ _ ?_
          clear hK K
          refine norm_ (a' := ?_) ?_ ?_
          rotate_left
          · show Act.put _ (some 83) _ = _
            simp only [Act.put, List.setIfInBounds_toArray, List.set_cons_zero, List.set_cons_succ, i64_w, i32_w]
            rfl
          refine pure_ (i := 27) (N := some 5) (v := ?_) (a' := ?_) #[true, true, true, true, true, true, true, true, true, true, true, true, true, true, true, true, true, true, true, true, true, true, true, true, true, true, true, true] rfl rfl (by kernel_rfl) (fun _ _ _ h => h) (Or.inl ⟨by rfl, ?_⟩) ?_ ?_
          rotate_left
          · intro w'
            go_simp
            with_reducible rfl
          rotate_left
          · simp only [Act.put, List.setIfInBounds_toArray, List.set_cons_zero, List.set_cons_succ, i64_w, i32_w]
            rfl
          refine done_ (by kernel_rfl) ?_
          clear hHeld yw3 yp3 yq3 yn3 yw8 yp8 yq8 yn8 yw14 yp14 yq14 yn14 yw16 yp16 yq16 yn16
          go_wp2_with fail
          go_roundg go
          case measure => have := HK.out; omega
          case rel => exact ⟨t + 1, by go_num, ⟨by have := HK.out; omega⟩, ⟨by omega⟩, ⟨by have := HO7.out; rw [wx_succ l t h16, HX3.out, HX8.out, HX14.out, HX16.out]; exact this⟩, HA27, HA47, B7⟩
        · obtain rfl : t = 80 := by have := HK.out; omega
          simp only [show ((80 : Nat) : Int) = 80 from rfl]
          clear HK H16
          go_wp2_with (first | ((with_reducible refine gate_dst (N := 84) rfl ?_); refine loadG_event (T := 42) (by rfl) rfl rfl (run_loadVar_row _ _ _ _ _ (0, 0) _ HA2.out Tryd.underlying42 rfl (by kernel_rfl)) ?_) | ((with_reducible refine gate_dst (N := 8) rfl ?_); refine box_event ?hg (N := 8) ?hd (cs := #[.int .u32 0, .int .u32 0, .int .u32 0, .int .u32 0, .int .u32 0]) (t := 42) ?hr ?_; (case hd => rfl); (case hg => rfl); (case hr => first | (go_simp; done) | (go_simp; rfl)); intro g8 hg8 w8 hh8 hb8; have N28 : g1 ≠ g8 := Nat.ne_of_lt (Nat.lt_of_lt_of_eq (blk_lt HA2.out) hg8.symm); have N48 : g6 ≠ g8 := Nat.ne_of_lt (Nat.lt_of_lt_of_eq (blk_lt HA4.out) hg8.symm); have G8 : w.heap.size ≤ g8 := Nat.le_trans BB.out.size (Nat.le_of_eq hg8.symm); have H88 := Aside0.mk hh8; have HA28 := Aside0.mk (blk_below HA2.out hb8); have HA48 := Aside0.mk (blk_below HA4.out hb8); have HO8 := Aside0.mk (Kd.R_below HO.out hb8); have B8 := Aside0.mk (below_step BB.out hb8); clear hg8 hh8 hb8 HA2 HA4 HO BB) | ((with_reducible refine gate_store (t := 42) (p := _) rfl ?_); refine storeN_event (T := 42) rfl rfl rfl rfl rfl (storeVar_blk H88.out 42 0 [.int .u32 h0, .int .u32 h1, .int .u32 h2, .int .u32 h3, .int .u32 h4] (by kernel_rfl) rfl (by simp)) ?_; have H89 := Aside0.mk (show (World.setCells w8 g8 0 [.int .u32 h0, .int .u32 h1, .int .u32 h2, .int .u32 h3, .int .u32 h4]).heap[g8]? = some (.cells #[.int .u32 h0, .int .u32 h1, .int .u32 h2, .int .u32 h3, .int .u32 h4] 42 (0, 0)) from blk_setCells [] [.int .u32 h0, .int .u32 h1, .int .u32 h2, .int .u32 h3, .int .u32 h4] [.int .u32 0, .int .u32 0, .int .u32 0, .int .u32 0, .int .u32 0] [] w8 rfl H88.out); have HA29 := Aside0.mk (far_setCells N28 [.int .u32 h0, .int .u32 h1, .int .u32 h2, .int .u32 h3, .int .u32 h4] 0 w8 HA28.out); have HA49 := Aside0.mk (far_setCells N48 [.int .u32 h0, .int .u32 h1, .int .u32 h2, .int .u32 h3, .int .u32 h4] 0 w8 HA48.out); have HO9 := Aside0.mk (R_setCells (show (41 : Nat) ≠ 42 by decide) [.int .u32 h0, .int .u32 h1, .int .u32 h2, .int .u32 h3, .int .u32 h4] 0 w8 HO8.out H88.out); have B9 := Aside0.mk (below_setCells G8 [.int .u32 h0, .int .u32 h1, .int .u32 h2, .int .u32 h3, .int .u32 h4] 0 w8 B8.out); clear H88 HA28 HA48 HO8 B8; generalize World.setCells w8 g8 0 [.int .u32 h0, .int .u32 h1, .int .u32 h2, .int .u32 h3, .int .u32 h4] = w9 at H89 HA29 HA49 HO9 B9 ⊢))
          have HST := Aside0.mk (show rs h0 h1 h2 h3 h4 l 0 = (h0, h1, h2, h3, h4) from rfl)
          go_loopg [9] 80 (fun n v9 w' => ∃ (t : Nat) (a b c' d e : Int), v9 = .int .i64 (t : Int) ∧ Aside0 (t + n = 80) ∧ Aside0 (rs h0 h1 h2 h3 h4 l t = (a, b, c', d, e)) ∧ Aside0 (Kd.R (Kd.int .u32) 41 w' w.heap.size (fun _ => True) (.slice (some ⟨gr, 0, none⟩) 80 cr) (wx l 64)) ∧ Aside0 (w'.heap[g1]? = some (.cells #[.int .u32 h0, .int .u32 h1, .int .u32 h2, .int .u32 h3, .int .u32 h4] 42 (0, 0))) ∧ Aside0 (w'.heap[g6]? = some (.cells #[.int .u32 0, .int .u32 0, .int .u32 0, .int .u32 0, .int .u32 0] 42 (0, 0))) ∧ Aside0 (w'.heap[g8]? = some (.cells #[.int .u32 a, .int .u32 b, .int .u32 c', .int .u32 d, .int .u32 e] 42 (0, 0))) ∧ Aside0 (Below w.heap.size w w'))
          case atStart => exact ⟨0, h0, h1, h2, h3, h4, rfl, ⟨rfl⟩, HST, HO9, HA29, HA49, H89, B9⟩
          case round =>
            clear HO9 HA29 HA49 H89 B9 HST
            obtain ⟨t, a, b, c', d, e, rfl, HK, HST, HO, HA2, HA4, H8, BB⟩ := hrel
            by_cases hk : t < 80
            · obtain ⟨go, rfl⟩ : ∃ j, gk = j + 1 := ⟨gk - 1, by have := HK.out; omega⟩
              have ht1 : ((t : Int) < 80) = True := eq_true (by omega)
              have htp : (0 ≤ (t : Int)) = True := eq_true (by omega)
              have k1 : wr.cell? ⟨g8, 1, none⟩ = some (.int .u32 b) := (blk_cell H8.out 1).trans rfl
              have k2 : wr.cell? ⟨g8, 2, none⟩ = some (.int .u32 c') := (blk_cell H8.out 2).trans rfl
              have k3 : wr.cell? ⟨g8, 3, none⟩ = some (.int .u32 d) := (blk_cell H8.out 3).trans rfl
              go_wp2_with fail
              refine (part_calls t b c' d _ hk).mono ?_
              rintro e_ w2 ⟨rfl, rfl⟩
              clear k1 k2 k3
              go_wp2_with fail
              obtain ⟨y0, hy0⟩ : ∃ v : Int, (wx l 64).getD t 0 = v := ⟨_, rfl⟩
              have HX0 := Aside0.mk hy0
              clear hy0
              have HA25 := Aside0.mk (blk_drew HA2.out)
              have HA45 := Aside0.mk (blk_drew HA4.out)
              have H85 := Aside0.mk (blk_drew H8.out)
              have HO5 := Aside0.mk (Kd.R_drew HO.out)
              have B5 := Aside0.mk (below_drew BB.out)
              clear HA2 HA4 H8 HO BB
              refine start_ (n := 26) (S := fun w' => w'.cell? ⟨g8, 0, none⟩ = some (.int .u32 a) ∧ w'.cell? ⟨g8, 1, none⟩ = some (.int .u32 b) ∧ w'.cell? ⟨g8, 2, none⟩ = some (.int .u32 c') ∧ w'.cell? ⟨g8, 3, none⟩ = some (.int .u32 d) ∧ w'.cell? ⟨g8, 4, none⟩ = some (.int .u32 e) ∧ w'.cell? ⟨gr, t, none⟩ = some (.int .u32 y0)) (ds := [25]) #[false, false, false, false, false, false, false, false, false, false, false, false, false, false, false, false, false, false, false, false, false, false, false, false, false, false] (by kernel_rfl) rfl rfl ⟨((blk_cell H85.out 0).trans rfl), ((blk_cell H85.out 1).trans rfl), ((blk_cell H85.out 2).trans rfl), ((blk_cell H85.out 3).trans rfl), ((blk_cell H85.out 4).trans rfl), (row_cell HO5.out t (by rw [wx_length]; omega) HX0.out)⟩ (fun hHeld => ?_)
              generalize World.drew wr = w5 at HA25 HA45 H85 HO5 B5 hHeld ⊢
              refine pure_ (i := 0) (N := some 100) (v := ?_) (a' := ?_) #[true, false, false, false, false, false, false, false, false, false, false, false, false, false, false, false, false, false, false, false, false, false, false, false, false, false] rfl rfl (by kernel_rfl) (fun _ _ _ h => h) (Or.inl ⟨by rfl, ?_⟩) ?_ ?_
              rotate_left
              · intro w'
                go_simp
                with_reducible rfl
              rotate_left
              · simp only [Act.put, List.setIfInBounds_toArray, List.set_cons_zero, List.set_cons_succ, i64_w, i32_w]
                rfl
              refine pure_ (i := 3) (N := some 103) (v := ?_) (a' := ?_) #[true, false, false, true, false, false, false, false, false, false, false, false, false, false, false, false, false, false, false, false, false, false, false, false, false, false] rfl rfl (by kernel_rfl) (fun _ _ _ h => h) (Or.inl ⟨by rfl, ?_⟩) ?_ ?_
              rotate_left
              · intro w'
                go_simp
                with_reducible rfl
              rotate_left
              · simp only [Act.put, List.setIfInBounds_toArray, List.set_cons_zero, List.set_cons_succ, i64_w, i32_w]
                rfl
              refine pure_ (i := 5) (N := some 105) (v := ?_) (a' := ?_) #[true, false, false, true, false, true, false, false, false, false, false, false, false, false, false, false, false, false, false, false, false, false, false, false, false, false] rfl rfl (by kernel_rfl) (fun _ _ _ h => h) (Or.inl ⟨by rfl, ?_⟩) ?_ ?_
              rotate_left
              · intro w'
                go_simp
                with_reducible rfl
              rotate_left
              · simp only [Act.put, List.setIfInBounds_toArray, List.set_cons_zero, List.set_cons_succ, i64_w, i32_w]
                rfl
              refine pure_ (i := 8) (N := some 108) (v := ?_) (a' := ?_) #[true, false, false, true, false, true, false, false, true, false, false, false, false, false, false, false, false, false, false, false, false, false, false, false, false, false] rfl rfl (by kernel_rfl) (fun _ _ _ h => h) (Or.inl ⟨by rfl, ?_⟩) ?_ ?_
              rotate_left
              · intro w'
                go_simp
                with_reducible rfl
              rotate_left
              · simp only [Act.put, List.setIfInBounds_toArray, List.set_cons_zero, List.set_cons_succ, i64_w, i32_w]
                rfl
              refine pure_ (i := 10) (N := some 110) (v := ?_) (a' := ?_) #[true, false, false, true, false, true, false, false, true, false, true, false, false, false, false, false, false, false, false, false, false, false, false, false, false, false] rfl rfl (by kernel_rfl) (fun _ _ _ h => h) (Or.inl ⟨by rfl, ?_⟩) ?_ ?_
              rotate_left
              · intro w'
                go_simp
                with_reducible rfl
              rotate_left
              · simp only [Act.put, List.setIfInBounds_toArray, List.set_cons_zero, List.set_cons_succ, i64_w, i32_w]
                rfl
              refine pure_ (i := 11) (N := some 111) (v := ?_) (a' := ?_) #[true, false, false, true, false, true, false, false, true, false, true, true, false, false, false, false, false, false, false, false, false, false, false, false, false, false] rfl rfl (by kernel_rfl) (fun _ _ _ h => h) (Or.inl ⟨by rfl, ?_⟩) ?_ ?_
              rotate_left
              · intro w'
                go_simp
                with_reducible rfl
              rotate_left
              · simp only [Act.put, List.setIfInBounds_toArray, List.set_cons_zero, List.set_cons_succ, i64_w, i32_w]
                rfl
              refine pure_ (i := 12) (N := some 112) (v := ?_) (a' := ?_) #[true, false, false, true, false, true, false, false, true, false, true, true, true, false, false, false, false, false, false, false, false, false, false, false, false, false] rfl rfl (by kernel_rfl) (fun _ _ _ h => h) (Or.inl ⟨by rfl, ?_⟩) ?_ ?_
              rotate_left
              · intro w'
                go_simp
                with_reducible rfl
              rotate_left
              · simp only [Act.put, List.setIfInBounds_toArray, List.set_cons_zero, List.set_cons_succ, i64_w, i32_w]
                rfl
              refine pure_ (i := 15) (N := some 115) (v := ?_) (a' := ?_) #[true, false, false, true, false, true, false, false, true, false, true, true, true, false, false, true, false, false, false, false, false, false, false, false, false, false] rfl rfl (by kernel_rfl) (fun _ _ _ h => h) (Or.inl ⟨by rfl, ?_⟩) ?_ ?_
              rotate_left
              · intro w'
                go_simp
                with_reducible rfl
              rotate_left
              · simp only [Act.put, List.setIfInBounds_toArray, List.set_cons_zero, List.set_cons_succ, i64_w, i32_w]
                rfl
              refine pure_ (i := 17) (N := some 117) (v := ?_) (a' := ?_) #[true, false, false, true, false, true, false, false, true, false, true, true, true, false, false, true, false, true, false, false, false, false, false, false, false, false] rfl rfl (by kernel_rfl) (fun _ _ _ h => h) (Or.inl ⟨by rfl, ?_⟩) ?_ ?_
              rotate_left
              · intro w'
                go_simp
                with_reducible rfl
              rotate_left
              · simp only [Act.put, List.setIfInBounds_toArray, List.set_cons_zero, List.set_cons_succ, i64_w, i32_w]
                rfl
              refine pure_ (i := 20) (N := some 120) (v := ?_) (a' := ?_) #[true, false, false, true, false, true, false, false, true, false, true, true, true, false, false, true, false, true, false, false, true, false, false, false, false, false] rfl rfl (by kernel_rfl) (fun _ _ _ h => h) (Or.inl ⟨by rfl, ?_⟩) ?_ ?_
              rotate_left
              · intro w'
                go_simp
                with_reducible rfl
              rotate_left
              · simp only [Act.put, List.setIfInBounds_toArray, List.set_cons_zero, List.set_cons_succ, i64_w, i32_w]
                rfl
              refine pure_ (i := 22) (N := some 122) (v := ?_) (a' := ?_) #[true, false, false, true, false, true, false, false, true, false, true, true, true, false, false, true, false, true, false, false, true, false, true, false, false, false] rfl rfl (by kernel_rfl) (fun _ _ _ h => h) (Or.inl ⟨by rfl, ?_⟩) ?_ ?_
              rotate_left
              · intro w'
                go_simp
                with_reducible rfl
              rotate_left
              · simp only [Act.put, List.setIfInBounds_toArray, List.set_cons_zero, List.set_cons_succ, i64_w, i32_w]
                rfl
              refine take_ (i := 1) (N := some 101) (v := ?_) (a' := ?_) #[true, true, false, true, false, true, false, false, true, false, true, true, true, false, false, true, false, true, false, false, true, false, true, false, false, false] rfl rfl (by kernel_rfl) (fun _ _ _ h => h) (Or.inl ⟨by rfl, ?_⟩) hHeld ?_ ?_
              rotate_left
              · rintro w' ⟨s0, s1, s2, s3, s4, s5⟩
                go_simp
                with_reducible rfl
              rotate_left
              · simp only [Act.put, List.setIfInBounds_toArray, List.set_cons_zero, List.set_cons_succ, i64_w, i32_w]
                rfl
              refine take_ (i := 6) (N := some 106) (v := ?_) (a' := ?_) #[true, true, false, true, false, true, true, false, true, false, true, true, true, false, false, true, false, true, false, false, true, false, true, false, false, false] rfl rfl (by kernel_rfl) (fun _ _ _ h => h) (Or.inl ⟨by rfl, ?_⟩) hHeld ?_ ?_
              rotate_left
              · rintro w' ⟨s0, s1, s2, s3, s4, s5⟩
                go_simp
                with_reducible rfl
              rotate_left
              · simp only [Act.put, List.setIfInBounds_toArray, List.set_cons_zero, List.set_cons_succ, i64_w, i32_w]
                rfl
              refine take_ (i := 13) (N := some 113) (v := ?_) (a' := ?_) #[true, true, false, true, false, true, true, false, true, false, true, true, true, true, false, true, false, true, false, false, true, false, true, false, false, false] rfl rfl (by kernel_rfl) (fun _ _ _ h => h) (Or.inl ⟨by rfl, ?_⟩) hHeld ?_ ?_
              rotate_left
              · rintro w' ⟨s0, s1, s2, s3, s4, s5⟩
                go_simp
                with_reducible rfl
              rotate_left
              · simp only [Act.put, List.setIfInBounds_toArray, List.set_cons_zero, List.set_cons_succ, i64_w, i32_w]
                rfl
              refine take_ (i := 16) (N := some 116) (v := ?_) (a' := ?_) #[true, true, false, true, false, true, true, false, true, false, true, true, true, true, false, true, true, true, false, false, true, false, true, false, false, false] rfl rfl (by kernel_rfl) (fun _ _ _ h => h) (Or.inl ⟨by rfl, ?_⟩) hHeld ?_ ?_
              rotate_left
              · rintro w' ⟨s0, s1, s2, s3, s4, s5⟩
                go_simp
                with_reducible rfl
              rotate_left
              · simp only [Act.put, List.setIfInBounds_toArray, List.set_cons_zero, List.set_cons_succ, i64_w, i32_w]
                rfl
              refine take_ (i := 18) (N := some 118) (v := ?_) (a' := ?_) #[true, true, false, true, false, true, true, false, true, false, true, true, true, true, false, true, true, true, true, false, true, false, true, false, false, false] rfl rfl (by kernel_rfl) (fun _ _ _ h => h) (Or.inl ⟨by rfl, ?_⟩) hHeld ?_ ?_
              rotate_left
              · rintro w' ⟨s0, s1, s2, s3, s4, s5⟩
                go_simp
                with_reducible rfl
              rotate_left
              · simp only [Act.put, List.setIfInBounds_toArray, List.set_cons_zero, List.set_cons_succ, i64_w, i32_w]
                rfl
              refine take_ (i := 21) (N := some 121) (v := ?_) (a' := ?_) #[true, true, false, true, false, true, true, false, true, false, true, true, true, true, false, true, true, true, true, false, true, true, true, false, false, false] rfl rfl (by kernel_rfl) (fun _ _ _ h => h) (Or.inl ⟨by rfl, ?_⟩) hHeld ?_ ?_
              rotate_left
              · rintro w' ⟨s0, s1, s2, s3, s4, s5⟩
                go_simp
                with_reducible rfl
              rotate_left
              · simp only [Act.put, List.setIfInBounds_toArray, List.set_cons_zero, List.set_cons_succ, i64_w, i32_w]
                rfl
              refine take_ (i := 23) (N := some 123) (v := ?_) (a' := ?_) #[true, true, false, true, false, true, true, false, true, false, true, true, true, true, false, true, true, true, true, false, true, true, true, true, false, false] rfl rfl (by kernel_rfl) (fun _ _ _ h => h) (Or.inl ⟨by rfl, ?_⟩) hHeld ?_ ?_
              rotate_left
              · rintro w' ⟨s0, s1, s2, s3, s4, s5⟩
                go_simp
                with_reducible rfl
              rotate_left
              · simp only [Act.put, List.setIfInBounds_toArray, List.set_cons_zero, List.set_cons_succ, i64_w, i32_w]
                rfl
              refine one_ (i := 2) (N := some 102) #[true, true, true, true, false, true, true, false, true, false, true, true, true, true, false, true, true, true, true, false, true, true, true, true, false, false] rfl rfl (by kernel_rfl) (by decide) (fun K hK => ?_)
              refine goes_ Tryd.func93 (by kernel_rfl) rfl #[.int .u32 a, .int .i64 5] (by rfl) rfl rfl (by simp only [List.map_toArray, List.map_cons, List.map_nil]; rfl) ?_
              with_reducible refine (turn5_calls _ _).mono ?_
              rintro e_ w6 ⟨rfl, hb_⟩
              refine ⟨_, rfl, ?_⟩
              have HA26 := Aside0.mk (blk_below HA25.out hb_)
              have HA46 := Aside0.mk (blk_below HA45.out hb_)
              have H86 := Aside0.mk (blk_below H85.out hb_)
              have HO6 := Aside0.mk (Kd.R_below HO5.out hb_)
              have B6 := Aside0.mk (below_step B5.out hb_)
              clear hb_ HA25 HA45 H85 HO5 B5
              refine hK.out _ _ ⟨((blk_cell H86.out 0).trans rfl), ((blk_cell H86.out 1).trans rfl), ((blk_cell H86.out 2).trans rfl), ((blk_cell H86.out 3).trans rfl), ((blk_cell H86.out 4).trans rfl), (row_cell HO6.out t (by rw [wx_length]; omega) HX0.out)⟩ (fun hHeld => ?_)
              clear hK K
              refine norm_ (a' := ?_) ?_ ?_
              rotate_left
              · show Act.put _ (some 102) _ = _
                simp only [Act.put, List.setIfInBounds_toArray, List.set_cons_zero, List.set_cons_succ, i64_w, i32_w]
                rfl
              refine pure_ (i := 4) (N := some 104) (v := ?_) (a' := ?_) #[true, true, true, true, true, true, true, false, true, false, true, true, true, true, false, true, true, true, true, false, true, true, true, true, false, false] rfl rfl (by kernel_rfl) (fun _ _ _ h => h) (Or.inl ⟨by rfl, ?_⟩) ?_ ?_
              rotate_left
              · intro w'
                go_simp
                with_reducible rfl
              rotate_left
              · simp only [Act.put, List.setIfInBounds_toArray, List.set_cons_zero, List.set_cons_succ, i64_w, i32_w]
                rfl
              refine pure_ (i := 7) (N := some 107) (v := ?_) (a' := ?_) #[true, true, true, true, true, true, true, true, true, false, true, true, true, true, false, true, true, true, true, false, true, true, true, true, false, false] rfl rfl (by kernel_rfl) (fun _ _ _ h => h) (Or.inl ⟨by rfl, ?_⟩) ?_ ?_
              rotate_left
              · intro w'
                go_simp
                with_reducible rfl
              rotate_left
              · simp only [Act.put, List.setIfInBounds_toArray, List.set_cons_zero, List.set_cons_succ, i64_w, i32_w]
                rfl
              refine pure_ (i := 9) (N := some 109) (v := ?_) (a' := ?_) #[true, true, true, true, true, true, true, true, true, true, true, true, true, true, false, true, true, true, true, false, true, true, true, true, false, false] rfl rfl (by kernel_rfl) (fun _ _ _ h => h) (Or.inl ⟨by rfl, ?_⟩) ?_ ?_
              rotate_left
              · intro w'
                go_simp
                with_reducible rfl
              rotate_left
              · simp only [Act.put, List.setIfInBounds_toArray, List.set_cons_zero, List.set_cons_succ, i64_w, i32_w]
                rfl
              refine pure_ (i := 14) (N := some 114) (v := ?_) (a' := ?_) #[true, true, true, true, true, true, true, true, true, true, true, true, true, true, true, true, true, true, true, false, true, true, true, true, false, false] rfl rfl (by kernel_rfl) (fun _ _ _ h => h) (Or.inl ⟨by rfl, ?_⟩) ?_ ?_
              rotate_left
              · intro w'
                go_simp
                with_reducible rfl
              rotate_left
              · simp only [Act.put, List.setIfInBounds_toArray, List.set_cons_zero, List.set_cons_succ, i64_w, i32_w]
                rfl
              refine one_ (i := 19) (N := some 119) #[true, true, true, true, true, true, true, true, true, true, true, true, true, true, true, true, true, true, true, true, true, true, true, true, false, false] rfl rfl (by kernel_rfl) (by decide) (fun K hK => ?_)
              refine goes_ Tryd.func93 (by kernel_rfl) rfl #[.int .u32 b, .int .i64 30] (by rfl) rfl rfl (by simp only [List.map_toArray, List.map_cons, List.map_nil]; rfl) ?_
              with_reducible refine (turn30_calls _ _).mono ?_
              rintro e_ w7 ⟨rfl, hb_⟩
              refine ⟨_, rfl, ?_⟩
              have HA27 := Aside0.mk (blk_below HA26.out hb_)
              have HA47 := Aside0.mk (blk_below HA46.out hb_)
              have H87 := Aside0.mk (blk_below H86.out hb_)
              have HO7 := Aside0.mk (Kd.R_below HO6.out hb_)
              have B7 := Aside0.mk (below_step B6.out hb_)
              clear hb_ HA26 HA46 H86 HO6 B6
              refine hK.out _ _ ⟨((blk_cell H87.out 0).trans rfl), ((blk_cell H87.out 1).trans rfl), ((blk_cell H87.out 2).trans rfl), ((blk_cell H87.out 3).trans rfl), ((blk_cell H87.out 4).trans rfl), (row_cell HO7.out t (by rw [wx_length]; omega) HX0.out)⟩ (fun hHeld => ?_)
              clear hK K
              refine norm_ (a' := ?_) ?_ ?_
              rotate_left
              · show Act.put _ (some 119) _ = _
                simp only [Act.put, List.setIfInBounds_toArray, List.set_cons_zero, List.set_cons_succ, i64_w, i32_w]
                rfl
              refine pure_ (i := 24) (N := some 124) (v := ?_) (a' := ?_) #[true, true, true, true, true, true, true, true, true, true, true, true, true, true, true, true, true, true, true, true, true, true, true, true, true, false] rfl rfl (by kernel_rfl) (fun _ _ _ h => h) (Or.inl ⟨by rfl, ?_⟩) ?_ ?_
              rotate_left
              · intro w'
                go_simp
                with_reducible rfl
              rotate_left
              · simp only [Act.put, List.setIfInBounds_toArray, List.set_cons_zero, List.set_cons_succ, i64_w, i32_w]
                rfl
              refine last_ (i := 25) (N := none) #[true, true, true, true, true, true, true, true, true, true, true, true, true, true, true, true, true, true, true, true, true, true, true, true, true, true] rfl rfl (by kernel_rfl) (by decide) (fun K hK => ?_)
              refine skip_ (w1 := World.setCells w7 g8 0 [.int .u32 (IntKind.u32.wrap (IntKind.u32.wrap (IntKind.u32.wrap (IntKind.u32.wrap (rot 5 a + partv t b c' d) + e) + partk t) + y0)), .int .u32 a, .int .u32 (rot 30 b), .int .u32 c', .int .u32 d]) (by rfl) rfl (by exact storeN_run (T := 42) (vs := [.int .u32 (IntKind.u32.wrap (IntKind.u32.wrap (IntKind.u32.wrap (IntKind.u32.wrap (rot 5 a + partv t b c' d) + e) + partk t) + y0)), .int .u32 a, .int .u32 (rot 30 b), .int .u32 c', .int .u32 d]) rfl rfl rfl (storeVar_blk H87.out 42 0 [.int .u32 (IntKind.u32.wrap (IntKind.u32.wrap (IntKind.u32.wrap (IntKind.u32.wrap (rot 5 a + partv t b c' d) + e) + partk t) + y0)), .int .u32 a, .int .u32 (rot 30 b), .int .u32 c', .int .u32 d] (by kernel_rfl) rfl (by simp))) ?_
              refine hK.out _ _ ?_
              clear hK K
              refine done_ (by kernel_rfl) ?_
              have H88 := Aside0.mk (show (World.setCells w7 g8 0 [.int .u32 (IntKind.u32.wrap (IntKind.u32.wrap (IntKind.u32.wrap (IntKind.u32.wrap (rot 5 a + partv t b c' d) + e) + partk t) + y0)), .int .u32 a, .int .u32 (rot 30 b), .int .u32 c', .int .u32 d]).heap[g8]? = some (.cells #[.int .u32 (IntKind.u32.wrap (IntKind.u32.wrap (IntKind.u32.wrap (IntKind.u32.wrap (rot 5 a + partv t b c' d) + e) + partk t) + y0)), .int .u32 a, .int .u32 (rot 30 b), .int .u32 c', .int .u32 d] 42 (0, 0)) from blk_setCells [] [.int .u32 (IntKind.u32.wrap (IntKind.u32.wrap (IntKind.u32.wrap (IntKind.u32.wrap (rot 5 a + partv t b c' d) + e) + partk t) + y0)), .int .u32 a, .int .u32 (rot 30 b), .int .u32 c', .int .u32 d] [.int .u32 a, .int .u32 b, .int .u32 c', .int .u32 d, .int .u32 e] [] w7 rfl H87.out); have HA28 := Aside0.mk (far_setCells N28 [.int .u32 (IntKind.u32.wrap (IntKind.u32.wrap (IntKind.u32.wrap (IntKind.u32.wrap (rot 5 a + partv t b c' d) + e) + partk t) + y0)), .int .u32 a, .int .u32 (rot 30 b), .int .u32 c', .int .u32 d] 0 w7 HA27.out); have HA48 := Aside0.mk (far_setCells N48 [.int .u32 (IntKind.u32.wrap (IntKind.u32.wrap (IntKind.u32.wrap (IntKind.u32.wrap (rot 5 a + partv t b c' d) + e) + partk t) + y0)), .int .u32 a, .int .u32 (rot 30 b), .int .u32 c', .int .u32 d] 0 w7 HA47.out); have HO8 := Aside0.mk (R_setCells (show (41 : Nat) ≠ 42 by decide) [.int .u32 (IntKind.u32.wrap (IntKind.u32.wrap (IntKind.u32.wrap (IntKind.u32.wrap (rot 5 a + partv t b c' d) + e) + partk t) + y0)), .int .u32 a, .int .u32 (rot 30 b), .int .u32 c', .int .u32 d] 0 w7 HO7.out H87.out); have B8 := Aside0.mk (below_setCells G8 [.int .u32 (IntKind.u32.wrap (IntKind.u32.wrap (IntKind.u32.wrap (IntKind.u32.wrap (rot 5 a + partv t b c' d) + e) + partk t) + y0)), .int .u32 a, .int .u32 (rot 30 b), .int .u32 c', .int .u32 d] 0 w7 B7.out); clear H87 HA27 HA47 HO7 B7; generalize World.setCells w7 g8 0 [.int .u32 (IntKind.u32.wrap (IntKind.u32.wrap (IntKind.u32.wrap (IntKind.u32.wrap (rot 5 a + partv t b c' d) + e) + partk t) + y0)), .int .u32 a, .int .u32 (rot 30 b), .int .u32 c', .int .u32 d] = w8 at H88 HA28 HA48 HO8 B8 ⊢
              clear hHeld ht1 htp
              go_wp2_with fail
              go_roundg go
              case measure => have := HK.out; omega
              case rel => exact ⟨t + 1, _, _, _, _, _, by go_num, ⟨by have := HK.out; omega⟩, ⟨by rw [rs, HST.out, rsn, HX0.out]⟩, HO8, HA28, HA48, H88, B8⟩
            · obtain rfl : t = 80 := by have := HK.out; omega
              simp only [show ((80 : Nat) : Int) = 80 from rfl]
              clear HK HO
              go_wp2_with fail
              have HL4 := Aside0.mk (show up4 h0 h1 h2 h3 h4 a b c' d e 0 = (h0, h1, h2, h3, h4) from rfl)
              go_loopg [12] 5 (fun n v12 w' => ∃ (i : Nat) (p0 p1 p2 p3 p4 : Int), v12 = .int .i64 (i : Int) ∧ Aside0 (i + n = 5) ∧ Aside0 (up4 h0 h1 h2 h3 h4 a b c' d e i = (p0, p1, p2, p3, p4)) ∧ Aside0 (w'.heap[g1]? = some (.cells #[.int .u32 p0, .int .u32 p1, .int .u32 p2, .int .u32 p3, .int .u32 p4] 42 (0, 0))) ∧ Aside0 (w'.heap[g6]? = some (.cells #[.int .u32 0, .int .u32 0, .int .u32 0, .int .u32 0, .int .u32 0] 42 (0, 0))) ∧ Aside0 (w'.heap[g8]? = some (.cells #[.int .u32 a, .int .u32 b, .int .u32 c', .int .u32 d, .int .u32 e] 42 (0, 0))) ∧ Aside0 (Below w.heap.size w w'))
              case atStart => exact ⟨0, h0, h1, h2, h3, h4, rfl, ⟨rfl⟩, HL4, HA2, HA4, H8, BB⟩
              case round =>
                clear HL4 HA2 HA4 H8 BB
                obtain ⟨i, p0, p1, p2, p3, p4, rfl, HK, HU, HA2, HA4, H8, BB⟩ := hrel
                by_cases hk : i < 5
                · obtain ⟨go, rfl⟩ : ∃ j, gk = j + 1 := ⟨gk - 1, by have := HK.out; omega⟩
                  obtain rfl | rfl | rfl | rfl | rfl : i = 0 ∨ i = 1 ∨ i = 2 ∨ i = 3 ∨ i = 4 := by omega
                  · simp only [show ((0 : Nat) : Int) = 0 from rfl]
                    go_wp2_with fail
                    have HA25 := Aside0.mk (blk_drew HA2.out)
                    have HA45 := Aside0.mk (blk_drew HA4.out)
                    have H85 := Aside0.mk (blk_drew H8.out)
                    have B5 := Aside0.mk (below_drew BB.out)
                    clear HA2 HA4 H8 BB
                    refine start_ (n := 9) (S := fun w' => w'.cell? ⟨g1, 0, none⟩ = some (.int .u32 p0) ∧ w'.cell? ⟨g8, 0, none⟩ = some (.int .u32 a)) (ds := [8]) #[false, false, false, false, false, false, false, false, false] (by kernel_rfl) rfl rfl ⟨((blk_cell HA25.out 0).trans rfl), ((blk_cell H85.out 0).trans rfl)⟩ (fun hHeld => ?_)
                    generalize World.drew wr = w5 at HA25 HA45 H85 B5 hHeld ⊢
                    refine pure_ (i := 0) (N := some 129) (v := ?_) (a' := ?_) #[true, false, false, false, false, false, false, false, false] rfl rfl (by kernel_rfl) (fun _ _ _ h => h) (Or.inl ⟨by rfl, ?_⟩) ?_ ?_
                    rotate_left
                    · intro w'
                      go_simp
                      with_reducible rfl
                    rotate_left
                    · simp only [Act.put, List.setIfInBounds_toArray, List.set_cons_zero, List.set_cons_succ, i64_w, i32_w]
                      rfl
                    refine pure_ (i := 1) (N := some 130) (v := ?_) (a' := ?_) #[true, true, false, false, false, false, false, false, false] rfl rfl (by kernel_rfl) (fun _ _ _ h => h) (Or.inl ⟨by rfl, ?_⟩) ?_ ?_
                    rotate_left
                    · intro w'
                      go_simp
                      with_reducible rfl
                    rotate_left
                    · simp only [Act.put, List.setIfInBounds_toArray, List.set_cons_zero, List.set_cons_succ, i64_w, i32_w]
                      rfl
                    refine pure_ (i := 3) (N := some 132) (v := ?_) (a' := ?_) #[true, true, false, true, false, false, false, false, false] rfl rfl (by kernel_rfl) (fun _ _ _ h => h) (Or.inl ⟨by rfl, ?_⟩) ?_ ?_
                    rotate_left
                    · intro w'
                      go_simp
                      with_reducible rfl
                    rotate_left
                    · simp only [Act.put, List.setIfInBounds_toArray, List.set_cons_zero, List.set_cons_succ, i64_w, i32_w]
                      rfl
                    refine pure_ (i := 4) (N := some 133) (v := ?_) (a' := ?_) #[true, true, false, true, true, false, false, false, false] rfl rfl (by kernel_rfl) (fun _ _ _ h => h) (Or.inl ⟨by rfl, ?_⟩) ?_ ?_
                    rotate_left
                    · intro w'
                      go_simp
                      with_reducible rfl
                    rotate_left
                    · simp only [Act.put, List.setIfInBounds_toArray, List.set_cons_zero, List.set_cons_succ, i64_w, i32_w]
                      rfl
                    refine take_ (i := 2) (N := some 131) (v := ?_) (a' := ?_) #[true, true, true, true, true, false, false, false, false] rfl rfl (by kernel_rfl) (fun _ _ _ h => h) (Or.inl ⟨by rfl, ?_⟩) hHeld ?_ ?_
                    rotate_left
                    · rintro w' ⟨s0, s1⟩
                      go_simp
                      with_reducible rfl
                    rotate_left
                    · simp only [Act.put, List.setIfInBounds_toArray, List.set_cons_zero, List.set_cons_succ, i64_w, i32_w]
                      rfl
                    refine take_ (i := 5) (N := some 134) (v := ?_) (a' := ?_) #[true, true, true, true, true, true, false, false, false] rfl rfl (by kernel_rfl) (fun _ _ _ h => h) (Or.inl ⟨by rfl, ?_⟩) hHeld ?_ ?_
                    rotate_left
                    · rintro w' ⟨s0, s1⟩
                      go_simp
                      with_reducible rfl
                    rotate_left
                    · simp only [Act.put, List.setIfInBounds_toArray, List.set_cons_zero, List.set_cons_succ, i64_w, i32_w]
                      rfl
                    refine pure_ (i := 6) (N := some 135) (v := ?_) (a' := ?_) #[true, true, true, true, true, true, true, false, false] rfl rfl (by kernel_rfl) (fun _ _ _ h => h) (Or.inl ⟨by rfl, ?_⟩) ?_ ?_
                    rotate_left
                    · intro w'
                      go_simp
                      with_reducible rfl
                    rotate_left
                    · simp only [Act.put, List.setIfInBounds_toArray, List.set_cons_zero, List.set_cons_succ, i64_w, i32_w]
                      rfl
                    refine pure_ (i := 7) (N := some 136) (v := ?_) (a' := ?_) #[true, true, true, true, true, true, true, true, false] rfl rfl (by kernel_rfl) (fun _ _ _ h => h) (Or.inl ⟨by rfl, ?_⟩) ?_ ?_
                    rotate_left
                    · intro w'
                      go_simp
                      with_reducible rfl
                    rotate_left
                    · simp only [Act.put, List.setIfInBounds_toArray, List.set_cons_zero, List.set_cons_succ, i64_w, i32_w]
                      rfl
                    refine last_ (i := 8) (N := none) #[true, true, true, true, true, true, true, true, true] rfl rfl (by kernel_rfl) (by decide) (fun K hK => ?_)
                    have hb := (blk_cell HA25.out 0).trans (show (#[.int .u32 p0, .int .u32 p1, .int .u32 p2, .int .u32 p3, .int .u32 p4] : Array Value)[0]? = some (.int .u32 p0) from rfl)
                    have hf := blk_frozen HA25.out 0
                    clear hHeld
                    refine skip_ (w1 := ?_) (by rfl) rfl ?_ ?_
                    rotate_left
                    · go_simp
                      rfl
                    refine hK.out _ _ ?_
                    clear hK K
                    refine done_ (by kernel_rfl) ?_
                    have HA26 := Aside0.mk (blk_put (cs' := #[.int .u32 (IntKind.u32.wrap (p0 + a)), .int .u32 p1, .int .u32 p2, .int .u32 p3, .int .u32 p4]) HA25.out 0 (.int .u32 (IntKind.u32.wrap (p0 + a))) rfl)
                    have HA46 := Aside0.mk (blk_far HA45.out (p := ⟨g1, 0, none⟩) (Ne.symm N8) (.int .u32 (IntKind.u32.wrap (p0 + a))))
                    have H86 := Aside0.mk (blk_far H85.out (p := ⟨g1, 0, none⟩) (Ne.symm N28) (.int .u32 (IntKind.u32.wrap (p0 + a))))
                    have B6 := Aside0.mk (below_set (j := 0) (v := .int .u32 (IntKind.u32.wrap (p0 + a))) B5.out G3)
                    clear HA25 HA45 H85 B5 hb hf
                    go_wp2_with fail
                    go_roundg go
                    case measure => have := HK.out; omega
                    case rel => exact ⟨1, (IntKind.u32.wrap (p0 + a)), p1, p2, p3, p4, by go_num, ⟨by have := HK.out; omega⟩, ⟨by have hu := HU.out; simp only [up4, Prod.mk.injEq] at hu ⊢; obtain ⟨rfl, rfl, rfl, rfl, rfl⟩ := hu; exact ⟨rfl, rfl, rfl, rfl, rfl⟩⟩, HA26, HA46, H86, B6⟩
                  · simp only [show ((1 : Nat) : Int) = 1 from rfl]
                    go_wp2_with fail
                    have HA25 := Aside0.mk (blk_drew HA2.out)
                    have HA45 := Aside0.mk (blk_drew HA4.out)
                    have H85 := Aside0.mk (blk_drew H8.out)
                    have B5 := Aside0.mk (below_drew BB.out)
                    clear HA2 HA4 H8 BB
                    refine start_ (n := 9) (S := fun w' => w'.cell? ⟨g1, 1, none⟩ = some (.int .u32 p1) ∧ w'.cell? ⟨g8, 1, none⟩ = some (.int .u32 b)) (ds := [8]) #[false, false, false, false, false, false, false, false, false] (by kernel_rfl) rfl rfl ⟨((blk_cell HA25.out 1).trans rfl), ((blk_cell H85.out 1).trans rfl)⟩ (fun hHeld => ?_)
                    generalize World.drew wr = w5 at HA25 HA45 H85 B5 hHeld ⊢
                    refine pure_ (i := 0) (N := some 129) (v := ?_) (a' := ?_) #[true, false, false, false, false, false, false, false, false] rfl rfl (by kernel_rfl) (fun _ _ _ h => h) (Or.inl ⟨by rfl, ?_⟩) ?_ ?_
                    rotate_left
                    · intro w'
                      go_simp
                      with_reducible rfl
                    rotate_left
                    · simp only [Act.put, List.setIfInBounds_toArray, List.set_cons_zero, List.set_cons_succ, i64_w, i32_w]
                      rfl
                    refine pure_ (i := 1) (N := some 130) (v := ?_) (a' := ?_) #[true, true, false, false, false, false, false, false, false] rfl rfl (by kernel_rfl) (fun _ _ _ h => h) (Or.inl ⟨by rfl, ?_⟩) ?_ ?_
                    rotate_left
                    · intro w'
                      go_simp
                      with_reducible rfl
                    rotate_left
                    · simp only [Act.put, List.setIfInBounds_toArray, List.set_cons_zero, List.set_cons_succ, i64_w, i32_w]
                      rfl
                    refine pure_ (i := 3) (N := some 132) (v := ?_) (a' := ?_) #[true, true, false, true, false, false, false, false, false] rfl rfl (by kernel_rfl) (fun _ _ _ h => h) (Or.inl ⟨by rfl, ?_⟩) ?_ ?_
                    rotate_left
                    · intro w'
                      go_simp
                      with_reducible rfl
                    rotate_left
                    · simp only [Act.put, List.setIfInBounds_toArray, List.set_cons_zero, List.set_cons_succ, i64_w, i32_w]
                      rfl
                    refine pure_ (i := 4) (N := some 133) (v := ?_) (a' := ?_) #[true, true, false, true, true, false, false, false, false] rfl rfl (by kernel_rfl) (fun _ _ _ h => h) (Or.inl ⟨by rfl, ?_⟩) ?_ ?_
                    rotate_left
                    · intro w'
                      go_simp
                      with_reducible rfl
                    rotate_left
                    · simp only [Act.put, List.setIfInBounds_toArray, List.set_cons_zero, List.set_cons_succ, i64_w, i32_w]
                      rfl
                    refine take_ (i := 2) (N := some 131) (v := ?_) (a' := ?_) #[true, true, true, true, true, false, false, false, false] rfl rfl (by kernel_rfl) (fun _ _ _ h => h) (Or.inl ⟨by rfl, ?_⟩) hHeld ?_ ?_
                    rotate_left
                    · rintro w' ⟨s0, s1⟩
                      go_simp
                      with_reducible rfl
                    rotate_left
                    · simp only [Act.put, List.setIfInBounds_toArray, List.set_cons_zero, List.set_cons_succ, i64_w, i32_w]
                      rfl
                    refine take_ (i := 5) (N := some 134) (v := ?_) (a' := ?_) #[true, true, true, true, true, true, false, false, false] rfl rfl (by kernel_rfl) (fun _ _ _ h => h) (Or.inl ⟨by rfl, ?_⟩) hHeld ?_ ?_
                    rotate_left
                    · rintro w' ⟨s0, s1⟩
                      go_simp
                      with_reducible rfl
                    rotate_left
                    · simp only [Act.put, List.setIfInBounds_toArray, List.set_cons_zero, List.set_cons_succ, i64_w, i32_w]
                      rfl
                    refine pure_ (i := 6) (N := some 135) (v := ?_) (a' := ?_) #[true, true, true, true, true, true, true, false, false] rfl rfl (by kernel_rfl) (fun _ _ _ h => h) (Or.inl ⟨by rfl, ?_⟩) ?_ ?_
                    rotate_left
                    · intro w'
                      go_simp
                      with_reducible rfl
                    rotate_left
                    · simp only [Act.put, List.setIfInBounds_toArray, List.set_cons_zero, List.set_cons_succ, i64_w, i32_w]
                      rfl
                    refine pure_ (i := 7) (N := some 136) (v := ?_) (a' := ?_) #[true, true, true, true, true, true, true, true, false] rfl rfl (by kernel_rfl) (fun _ _ _ h => h) (Or.inl ⟨by rfl, ?_⟩) ?_ ?_
                    rotate_left
                    · intro w'
                      go_simp
                      with_reducible rfl
                    rotate_left
                    · simp only [Act.put, List.setIfInBounds_toArray, List.set_cons_zero, List.set_cons_succ, i64_w, i32_w]
                      rfl
                    refine last_ (i := 8) (N := none) #[true, true, true, true, true, true, true, true, true] rfl rfl (by kernel_rfl) (by decide) (fun K hK => ?_)
                    have hb := (blk_cell HA25.out 1).trans (show (#[.int .u32 p0, .int .u32 p1, .int .u32 p2, .int .u32 p3, .int .u32 p4] : Array Value)[1]? = some (.int .u32 p1) from rfl)
                    have hf := blk_frozen HA25.out 1
                    clear hHeld
                    refine skip_ (w1 := ?_) (by rfl) rfl ?_ ?_
                    rotate_left
                    · go_simp
                      rfl
                    refine hK.out _ _ ?_
                    clear hK K
                    refine done_ (by kernel_rfl) ?_
                    have HA26 := Aside0.mk (blk_put (cs' := #[.int .u32 p0, .int .u32 (IntKind.u32.wrap (p1 + b)), .int .u32 p2, .int .u32 p3, .int .u32 p4]) HA25.out 1 (.int .u32 (IntKind.u32.wrap (p1 + b))) rfl)
                    have HA46 := Aside0.mk (blk_far HA45.out (p := ⟨g1, 1, none⟩) (Ne.symm N8) (.int .u32 (IntKind.u32.wrap (p1 + b))))
                    have H86 := Aside0.mk (blk_far H85.out (p := ⟨g1, 1, none⟩) (Ne.symm N28) (.int .u32 (IntKind.u32.wrap (p1 + b))))
                    have B6 := Aside0.mk (below_set (j := 1) (v := .int .u32 (IntKind.u32.wrap (p1 + b))) B5.out G3)
                    clear HA25 HA45 H85 B5 hb hf
                    go_wp2_with fail
                    go_roundg go
                    case measure => have := HK.out; omega
                    case rel => exact ⟨2, p0, (IntKind.u32.wrap (p1 + b)), p2, p3, p4, by go_num, ⟨by have := HK.out; omega⟩, ⟨by have hu := HU.out; simp only [up4, Prod.mk.injEq] at hu ⊢; obtain ⟨rfl, rfl, rfl, rfl, rfl⟩ := hu; exact ⟨rfl, rfl, rfl, rfl, rfl⟩⟩, HA26, HA46, H86, B6⟩
                  · simp only [show ((2 : Nat) : Int) = 2 from rfl]
                    go_wp2_with fail
                    have HA25 := Aside0.mk (blk_drew HA2.out)
                    have HA45 := Aside0.mk (blk_drew HA4.out)
                    have H85 := Aside0.mk (blk_drew H8.out)
                    have B5 := Aside0.mk (below_drew BB.out)
                    clear HA2 HA4 H8 BB
                    refine start_ (n := 9) (S := fun w' => w'.cell? ⟨g1, 2, none⟩ = some (.int .u32 p2) ∧ w'.cell? ⟨g8, 2, none⟩ = some (.int .u32 c')) (ds := [8]) #[false, false, false, false, false, false, false, false, false] (by kernel_rfl) rfl rfl ⟨((blk_cell HA25.out 2).trans rfl), ((blk_cell H85.out 2).trans rfl)⟩ (fun hHeld => ?_)
                    generalize World.drew wr = w5 at HA25 HA45 H85 B5 hHeld ⊢
                    refine pure_ (i := 0) (N := some 129) (v := ?_) (a' := ?_) #[true, false, false, false, false, false, false, false, false] rfl rfl (by kernel_rfl) (fun _ _ _ h => h) (Or.inl ⟨by rfl, ?_⟩) ?_ ?_
                    rotate_left
                    · intro w'
                      go_simp
                      with_reducible rfl
                    rotate_left
                    · simp only [Act.put, List.setIfInBounds_toArray, List.set_cons_zero, List.set_cons_succ, i64_w, i32_w]
                      rfl
                    refine pure_ (i := 1) (N := some 130) (v := ?_) (a' := ?_) #[true, true, false, false, false, false, false, false, false] rfl rfl (by kernel_rfl) (fun _ _ _ h => h) (Or.inl ⟨by rfl, ?_⟩) ?_ ?_
                    rotate_left
                    · intro w'
                      go_simp
                      with_reducible rfl
                    rotate_left
                    · simp only [Act.put, List.setIfInBounds_toArray, List.set_cons_zero, List.set_cons_succ, i64_w, i32_w]
                      rfl
                    refine pure_ (i := 3) (N := some 132) (v := ?_) (a' := ?_) #[true, true, false, true, false, false, false, false, false] rfl rfl (by kernel_rfl) (fun _ _ _ h => h) (Or.inl ⟨by rfl, ?_⟩) ?_ ?_
                    rotate_left
                    · intro w'
                      go_simp
                      with_reducible rfl
                    rotate_left
                    · simp only [Act.put, List.setIfInBounds_toArray, List.set_cons_zero, List.set_cons_succ, i64_w, i32_w]
                      rfl
                    refine pure_ (i := 4) (N := some 133) (v := ?_) (a' := ?_) #[true, true, false, true, true, false, false, false, false] rfl rfl (by kernel_rfl) (fun _ _ _ h => h) (Or.inl ⟨by rfl, ?_⟩) ?_ ?_
                    rotate_left
                    · intro w'
                      go_simp
                      with_reducible rfl
                    rotate_left
                    · simp only [Act.put, List.setIfInBounds_toArray, List.set_cons_zero, List.set_cons_succ, i64_w, i32_w]
                      rfl
                    refine take_ (i := 2) (N := some 131) (v := ?_) (a' := ?_) #[true, true, true, true, true, false, false, false, false] rfl rfl (by kernel_rfl) (fun _ _ _ h => h) (Or.inl ⟨by rfl, ?_⟩) hHeld ?_ ?_
                    rotate_left
                    · rintro w' ⟨s0, s1⟩
                      go_simp
                      with_reducible rfl
                    rotate_left
                    · simp only [Act.put, List.setIfInBounds_toArray, List.set_cons_zero, List.set_cons_succ, i64_w, i32_w]
                      rfl
                    refine take_ (i := 5) (N := some 134) (v := ?_) (a' := ?_) #[true, true, true, true, true, true, false, false, false] rfl rfl (by kernel_rfl) (fun _ _ _ h => h) (Or.inl ⟨by rfl, ?_⟩) hHeld ?_ ?_
                    rotate_left
                    · rintro w' ⟨s0, s1⟩
                      go_simp
                      with_reducible rfl
                    rotate_left
                    · simp only [Act.put, List.setIfInBounds_toArray, List.set_cons_zero, List.set_cons_succ, i64_w, i32_w]
                      rfl
                    refine pure_ (i := 6) (N := some 135) (v := ?_) (a' := ?_) #[true, true, true, true, true, true, true, false, false] rfl rfl (by kernel_rfl) (fun _ _ _ h => h) (Or.inl ⟨by rfl, ?_⟩) ?_ ?_
                    rotate_left
                    · intro w'
                      go_simp
                      with_reducible rfl
                    rotate_left
                    · simp only [Act.put, List.setIfInBounds_toArray, List.set_cons_zero, List.set_cons_succ, i64_w, i32_w]
                      rfl
                    refine pure_ (i := 7) (N := some 136) (v := ?_) (a' := ?_) #[true, true, true, true, true, true, true, true, false] rfl rfl (by kernel_rfl) (fun _ _ _ h => h) (Or.inl ⟨by rfl, ?_⟩) ?_ ?_
                    rotate_left
                    · intro w'
                      go_simp
                      with_reducible rfl
                    rotate_left
                    · simp only [Act.put, List.setIfInBounds_toArray, List.set_cons_zero, List.set_cons_succ, i64_w, i32_w]
                      rfl
                    refine last_ (i := 8) (N := none) #[true, true, true, true, true, true, true, true, true] rfl rfl (by kernel_rfl) (by decide) (fun K hK => ?_)
                    have hb := (blk_cell HA25.out 2).trans (show (#[.int .u32 p0, .int .u32 p1, .int .u32 p2, .int .u32 p3, .int .u32 p4] : Array Value)[2]? = some (.int .u32 p2) from rfl)
                    have hf := blk_frozen HA25.out 2
                    clear hHeld
                    refine skip_ (w1 := ?_) (by rfl) rfl ?_ ?_
                    rotate_left
                    · go_simp
                      rfl
                    refine hK.out _ _ ?_
                    clear hK K
                    refine done_ (by kernel_rfl) ?_
                    have HA26 := Aside0.mk (blk_put (cs' := #[.int .u32 p0, .int .u32 p1, .int .u32 (IntKind.u32.wrap (p2 + c')), .int .u32 p3, .int .u32 p4]) HA25.out 2 (.int .u32 (IntKind.u32.wrap (p2 + c'))) rfl)
                    have HA46 := Aside0.mk (blk_far HA45.out (p := ⟨g1, 2, none⟩) (Ne.symm N8) (.int .u32 (IntKind.u32.wrap (p2 + c'))))
                    have H86 := Aside0.mk (blk_far H85.out (p := ⟨g1, 2, none⟩) (Ne.symm N28) (.int .u32 (IntKind.u32.wrap (p2 + c'))))
                    have B6 := Aside0.mk (below_set (j := 2) (v := .int .u32 (IntKind.u32.wrap (p2 + c'))) B5.out G3)
                    clear HA25 HA45 H85 B5 hb hf
                    go_wp2_with fail
                    go_roundg go
                    case measure => have := HK.out; omega
                    case rel => exact ⟨3, p0, p1, (IntKind.u32.wrap (p2 + c')), p3, p4, by go_num, ⟨by have := HK.out; omega⟩, ⟨by have hu := HU.out; simp only [up4, Prod.mk.injEq] at hu ⊢; obtain ⟨rfl, rfl, rfl, rfl, rfl⟩ := hu; exact ⟨rfl, rfl, rfl, rfl, rfl⟩⟩, HA26, HA46, H86, B6⟩
                  · simp only [show ((3 : Nat) : Int) = 3 from rfl]
                    go_wp2_with fail
                    have HA25 := Aside0.mk (blk_drew HA2.out)
                    have HA45 := Aside0.mk (blk_drew HA4.out)
                    have H85 := Aside0.mk (blk_drew H8.out)
                    have B5 := Aside0.mk (below_drew BB.out)
                    clear HA2 HA4 H8 BB
                    refine start_ (n := 9) (S := fun w' => w'.cell? ⟨g1, 3, none⟩ = some (.int .u32 p3) ∧ w'.cell? ⟨g8, 3, none⟩ = some (.int .u32 d)) (ds := [8]) #[false, false, false, false, false, false, false, false, false] (by kernel_rfl) rfl rfl ⟨((blk_cell HA25.out 3).trans rfl), ((blk_cell H85.out 3).trans rfl)⟩ (fun hHeld => ?_)
                    generalize World.drew wr = w5 at HA25 HA45 H85 B5 hHeld ⊢
                    refine pure_ (i := 0) (N := some 129) (v := ?_) (a' := ?_) #[true, false, false, false, false, false, false, false, false] rfl rfl (by kernel_rfl) (fun _ _ _ h => h) (Or.inl ⟨by rfl, ?_⟩) ?_ ?_
                    rotate_left
                    · intro w'
                      go_simp
                      with_reducible rfl
                    rotate_left
                    · simp only [Act.put, List.setIfInBounds_toArray, List.set_cons_zero, List.set_cons_succ, i64_w, i32_w]
                      rfl
                    refine pure_ (i := 1) (N := some 130) (v := ?_) (a' := ?_) #[true, true, false, false, false, false, false, false, false] rfl rfl (by kernel_rfl) (fun _ _ _ h => h) (Or.inl ⟨by rfl, ?_⟩) ?_ ?_
                    rotate_left
                    · intro w'
                      go_simp
                      with_reducible rfl
                    rotate_left
                    · simp only [Act.put, List.setIfInBounds_toArray, List.set_cons_zero, List.set_cons_succ, i64_w, i32_w]
                      rfl
                    refine pure_ (i := 3) (N := some 132) (v := ?_) (a' := ?_) #[true, true, false, true, false, false, false, false, false] rfl rfl (by kernel_rfl) (fun _ _ _ h => h) (Or.inl ⟨by rfl, ?_⟩) ?_ ?_
                    rotate_left
                    · intro w'
                      go_simp
                      with_reducible rfl
                    rotate_left
                    · simp only [Act.put, List.setIfInBounds_toArray, List.set_cons_zero, List.set_cons_succ, i64_w, i32_w]
                      rfl
                    refine pure_ (i := 4) (N := some 133) (v := ?_) (a' := ?_) #[true, true, false, true, true, false, false, false, false] rfl rfl (by kernel_rfl) (fun _ _ _ h => h) (Or.inl ⟨by rfl, ?_⟩) ?_ ?_
                    rotate_left
                    · intro w'
                      go_simp
                      with_reducible rfl
                    rotate_left
                    · simp only [Act.put, List.setIfInBounds_toArray, List.set_cons_zero, List.set_cons_succ, i64_w, i32_w]
                      rfl
                    refine take_ (i := 2) (N := some 131) (v := ?_) (a' := ?_) #[true, true, true, true, true, false, false, false, false] rfl rfl (by kernel_rfl) (fun _ _ _ h => h) (Or.inl ⟨by rfl, ?_⟩) hHeld ?_ ?_
                    rotate_left
                    · rintro w' ⟨s0, s1⟩
                      go_simp
                      with_reducible rfl
                    rotate_left
                    · simp only [Act.put, List.setIfInBounds_toArray, List.set_cons_zero, List.set_cons_succ, i64_w, i32_w]
                      rfl
                    refine take_ (i := 5) (N := some 134) (v := ?_) (a' := ?_) #[true, true, true, true, true, true, false, false, false] rfl rfl (by kernel_rfl) (fun _ _ _ h => h) (Or.inl ⟨by rfl, ?_⟩) hHeld ?_ ?_
                    rotate_left
                    · rintro w' ⟨s0, s1⟩
                      go_simp
                      with_reducible rfl
                    rotate_left
                    · simp only [Act.put, List.setIfInBounds_toArray, List.set_cons_zero, List.set_cons_succ, i64_w, i32_w]
                      rfl
                    refine pure_ (i := 6) (N := some 135) (v := ?_) (a' := ?_) #[true, true, true, true, true, true, true, false, false] rfl rfl (by kernel_rfl) (fun _ _ _ h => h) (Or.inl ⟨by rfl, ?_⟩) ?_ ?_
                    rotate_left
                    · intro w'
                      go_simp
                      with_reducible rfl
                    rotate_left
                    · simp only [Act.put, List.setIfInBounds_toArray, List.set_cons_zero, List.set_cons_succ, i64_w, i32_w]
                      rfl
                    refine pure_ (i := 7) (N := some 136) (v := ?_) (a' := ?_) #[true, true, true, true, true, true, true, true, false] rfl rfl (by kernel_rfl) (fun _ _ _ h => h) (Or.inl ⟨by rfl, ?_⟩) ?_ ?_
                    rotate_left
                    · intro w'
                      go_simp
                      with_reducible rfl
                    rotate_left
                    · simp only [Act.put, List.setIfInBounds_toArray, List.set_cons_zero, List.set_cons_succ, i64_w, i32_w]
                      rfl
                    refine last_ (i := 8) (N := none) #[true, true, true, true, true, true, true, true, true] rfl rfl (by kernel_rfl) (by decide) (fun K hK => ?_)
                    have hb := (blk_cell HA25.out 3).trans (show (#[.int .u32 p0, .int .u32 p1, .int .u32 p2, .int .u32 p3, .int .u32 p4] : Array Value)[3]? = some (.int .u32 p3) from rfl)
                    have hf := blk_frozen HA25.out 3
                    clear hHeld
                    refine skip_ (w1 := ?_) (by rfl) rfl ?_ ?_
                    rotate_left
                    · go_simp
                      rfl
                    refine hK.out _ _ ?_
                    clear hK K
                    refine done_ (by kernel_rfl) ?_
                    have HA26 := Aside0.mk (blk_put (cs' := #[.int .u32 p0, .int .u32 p1, .int .u32 p2, .int .u32 (IntKind.u32.wrap (p3 + d)), .int .u32 p4]) HA25.out 3 (.int .u32 (IntKind.u32.wrap (p3 + d))) rfl)
                    have HA46 := Aside0.mk (blk_far HA45.out (p := ⟨g1, 3, none⟩) (Ne.symm N8) (.int .u32 (IntKind.u32.wrap (p3 + d))))
                    have H86 := Aside0.mk (blk_far H85.out (p := ⟨g1, 3, none⟩) (Ne.symm N28) (.int .u32 (IntKind.u32.wrap (p3 + d))))
                    have B6 := Aside0.mk (below_set (j := 3) (v := .int .u32 (IntKind.u32.wrap (p3 + d))) B5.out G3)
                    clear HA25 HA45 H85 B5 hb hf
                    go_wp2_with fail
                    go_roundg go
                    case measure => have := HK.out; omega
                    case rel => exact ⟨4, p0, p1, p2, (IntKind.u32.wrap (p3 + d)), p4, by go_num, ⟨by have := HK.out; omega⟩, ⟨by have hu := HU.out; simp only [up4, Prod.mk.injEq] at hu ⊢; obtain ⟨rfl, rfl, rfl, rfl, rfl⟩ := hu; exact ⟨rfl, rfl, rfl, rfl, rfl⟩⟩, HA26, HA46, H86, B6⟩
                  · simp only [show ((4 : Nat) : Int) = 4 from rfl]
                    go_wp2_with fail
                    have HA25 := Aside0.mk (blk_drew HA2.out)
                    have HA45 := Aside0.mk (blk_drew HA4.out)
                    have H85 := Aside0.mk (blk_drew H8.out)
                    have B5 := Aside0.mk (below_drew BB.out)
                    clear HA2 HA4 H8 BB
                    refine start_ (n := 9) (S := fun w' => w'.cell? ⟨g1, 4, none⟩ = some (.int .u32 p4) ∧ w'.cell? ⟨g8, 4, none⟩ = some (.int .u32 e)) (ds := [8]) #[false, false, false, false, false, false, false, false, false] (by kernel_rfl) rfl rfl ⟨((blk_cell HA25.out 4).trans rfl), ((blk_cell H85.out 4).trans rfl)⟩ (fun hHeld => ?_)
                    generalize World.drew wr = w5 at HA25 HA45 H85 B5 hHeld ⊢
                    refine pure_ (i := 0) (N := some 129) (v := ?_) (a' := ?_) #[true, false, false, false, false, false, false, false, false] rfl rfl (by kernel_rfl) (fun _ _ _ h => h) (Or.inl ⟨by rfl, ?_⟩) ?_ ?_
                    rotate_left
                    · intro w'
                      go_simp
                      with_reducible rfl
                    rotate_left
                    · simp only [Act.put, List.setIfInBounds_toArray, List.set_cons_zero, List.set_cons_succ, i64_w, i32_w]
                      rfl
                    refine pure_ (i := 1) (N := some 130) (v := ?_) (a' := ?_) #[true, true, false, false, false, false, false, false, false] rfl rfl (by kernel_rfl) (fun _ _ _ h => h) (Or.inl ⟨by rfl, ?_⟩) ?_ ?_
                    rotate_left
                    · intro w'
                      go_simp
                      with_reducible rfl
                    rotate_left
                    · simp only [Act.put, List.setIfInBounds_toArray, List.set_cons_zero, List.set_cons_succ, i64_w, i32_w]
                      rfl
                    refine pure_ (i := 3) (N := some 132) (v := ?_) (a' := ?_) #[true, true, false, true, false, false, false, false, false] rfl rfl (by kernel_rfl) (fun _ _ _ h => h) (Or.inl ⟨by rfl, ?_⟩) ?_ ?_
                    rotate_left
                    · intro w'
                      go_simp
                      with_reducible rfl
                    rotate_left
                    · simp only [Act.put, List.setIfInBounds_toArray, List.set_cons_zero, List.set_cons_succ, i64_w, i32_w]
                      rfl
                    refine pure_ (i := 4) (N := some 133) (v := ?_) (a' := ?_) #[true, true, false, true, true, false, false, false, false] rfl rfl (by kernel_rfl) (fun _ _ _ h => h) (Or.inl ⟨by rfl, ?_⟩) ?_ ?_
                    rotate_left
                    · intro w'
                      go_simp
                      with_reducible rfl
                    rotate_left
                    · simp only [Act.put, List.setIfInBounds_toArray, List.set_cons_zero, List.set_cons_succ, i64_w, i32_w]
                      rfl
                    refine take_ (i := 2) (N := some 131) (v := ?_) (a' := ?_) #[true, true, true, true, true, false, false, false, false] rfl rfl (by kernel_rfl) (fun _ _ _ h => h) (Or.inl ⟨by rfl, ?_⟩) hHeld ?_ ?_
                    rotate_left
                    · rintro w' ⟨s0, s1⟩
                      go_simp
                      with_reducible rfl
                    rotate_left
                    · simp only [Act.put, List.setIfInBounds_toArray, List.set_cons_zero, List.set_cons_succ, i64_w, i32_w]
                      rfl
                    refine take_ (i := 5) (N := some 134) (v := ?_) (a' := ?_) #[true, true, true, true, true, true, false, false, false] rfl rfl (by kernel_rfl) (fun _ _ _ h => h) (Or.inl ⟨by rfl, ?_⟩) hHeld ?_ ?_
                    rotate_left
                    · rintro w' ⟨s0, s1⟩
                      go_simp
                      with_reducible rfl
                    rotate_left
                    · simp only [Act.put, List.setIfInBounds_toArray, List.set_cons_zero, List.set_cons_succ, i64_w, i32_w]
                      rfl
                    refine pure_ (i := 6) (N := some 135) (v := ?_) (a' := ?_) #[true, true, true, true, true, true, true, false, false] rfl rfl (by kernel_rfl) (fun _ _ _ h => h) (Or.inl ⟨by rfl, ?_⟩) ?_ ?_
                    rotate_left
                    · intro w'
                      go_simp
                      with_reducible rfl
                    rotate_left
                    · simp only [Act.put, List.setIfInBounds_toArray, List.set_cons_zero, List.set_cons_succ, i64_w, i32_w]
                      rfl
                    refine pure_ (i := 7) (N := some 136) (v := ?_) (a' := ?_) #[true, true, true, true, true, true, true, true, false] rfl rfl (by kernel_rfl) (fun _ _ _ h => h) (Or.inl ⟨by rfl, ?_⟩) ?_ ?_
                    rotate_left
                    · intro w'
                      go_simp
                      with_reducible rfl
                    rotate_left
                    · simp only [Act.put, List.setIfInBounds_toArray, List.set_cons_zero, List.set_cons_succ, i64_w, i32_w]
                      rfl
                    refine last_ (i := 8) (N := none) #[true, true, true, true, true, true, true, true, true] rfl rfl (by kernel_rfl) (by decide) (fun K hK => ?_)
                    have hb := (blk_cell HA25.out 4).trans (show (#[.int .u32 p0, .int .u32 p1, .int .u32 p2, .int .u32 p3, .int .u32 p4] : Array Value)[4]? = some (.int .u32 p4) from rfl)
                    have hf := blk_frozen HA25.out 4
                    clear hHeld
                    refine skip_ (w1 := ?_) (by rfl) rfl ?_ ?_
                    rotate_left
                    · go_simp
                      rfl
                    refine hK.out _ _ ?_
                    clear hK K
                    refine done_ (by kernel_rfl) ?_
                    have HA26 := Aside0.mk (blk_put (cs' := #[.int .u32 p0, .int .u32 p1, .int .u32 p2, .int .u32 p3, .int .u32 (IntKind.u32.wrap (p4 + e))]) HA25.out 4 (.int .u32 (IntKind.u32.wrap (p4 + e))) rfl)
                    have HA46 := Aside0.mk (blk_far HA45.out (p := ⟨g1, 4, none⟩) (Ne.symm N8) (.int .u32 (IntKind.u32.wrap (p4 + e))))
                    have H86 := Aside0.mk (blk_far H85.out (p := ⟨g1, 4, none⟩) (Ne.symm N28) (.int .u32 (IntKind.u32.wrap (p4 + e))))
                    have B6 := Aside0.mk (below_set (j := 4) (v := .int .u32 (IntKind.u32.wrap (p4 + e))) B5.out G3)
                    clear HA25 HA45 H85 B5 hb hf
                    go_wp2_with fail
                    go_roundg go
                    case measure => have := HK.out; omega
                    case rel => exact ⟨5, p0, p1, p2, p3, (IntKind.u32.wrap (p4 + e)), by go_num, ⟨by have := HK.out; omega⟩, ⟨by have hu := HU.out; simp only [up4, Prod.mk.injEq] at hu ⊢; obtain ⟨rfl, rfl, rfl, rfl, rfl⟩ := hu; exact ⟨rfl, rfl, rfl, rfl, rfl⟩⟩, HA26, HA46, H86, B6⟩
                · obtain rfl : i = 5 := by have := HK.out; omega
                  have hu := HU.out
                  simp only [up4, Prod.mk.injEq] at hu
                  obtain ⟨rfl, rfl, rfl, rfl, rfl⟩ := hu
                  clear HU
                  simp only [show ((5 : Nat) : Int) = 5 from rfl]
                  go_wp2_with (first | ((with_reducible refine gate_dst (N := 137) rfl ?_); refine loadG_event (T := 42) (by rfl) rfl rfl (run_loadVar_row _ _ _ _ _ (0, 0) _ HA2.out Tryd.underlying42 rfl (by kernel_rfl)) ?_) | ((with_reducible refine gate_store (t := 42) (p := _) rfl ?_); refine storeN_event (T := 42) rfl rfl rfl rfl rfl (storeVar_blk HA4.out 42 0 [.int .u32 (IntKind.u32.wrap (h0 + a)), .int .u32 (IntKind.u32.wrap (h1 + b)), .int .u32 (IntKind.u32.wrap (h2 + c')), .int .u32 (IntKind.u32.wrap (h3 + d)), .int .u32 (IntKind.u32.wrap (h4 + e))] (by kernel_rfl) rfl (by simp)) ?_; have HA10 := Aside0.mk (show (World.setCells wr g6 0 [.int .u32 (IntKind.u32.wrap (h0 + a)), .int .u32 (IntKind.u32.wrap (h1 + b)), .int .u32 (IntKind.u32.wrap (h2 + c')), .int .u32 (IntKind.u32.wrap (h3 + d)), .int .u32 (IntKind.u32.wrap (h4 + e))]).heap[g6]? = some (.cells #[.int .u32 (IntKind.u32.wrap (h0 + a)), .int .u32 (IntKind.u32.wrap (h1 + b)), .int .u32 (IntKind.u32.wrap (h2 + c')), .int .u32 (IntKind.u32.wrap (h3 + d)), .int .u32 (IntKind.u32.wrap (h4 + e))] 42 (0, 0)) from blk_setCells [] [.int .u32 (IntKind.u32.wrap (h0 + a)), .int .u32 (IntKind.u32.wrap (h1 + b)), .int .u32 (IntKind.u32.wrap (h2 + c')), .int .u32 (IntKind.u32.wrap (h3 + d)), .int .u32 (IntKind.u32.wrap (h4 + e))] [.int .u32 0, .int .u32 0, .int .u32 0, .int .u32 0, .int .u32 0] [] wr rfl HA4.out); have B10 := Aside0.mk (below_setCells G9 [.int .u32 (IntKind.u32.wrap (h0 + a)), .int .u32 (IntKind.u32.wrap (h1 + b)), .int .u32 (IntKind.u32.wrap (h2 + c')), .int .u32 (IntKind.u32.wrap (h3 + d)), .int .u32 (IntKind.u32.wrap (h4 + e))] 0 wr BB.out)))
                  have hfin : doneF h0 h1 h2 h3 h4 l = (IntKind.u32.wrap (h0 + a), IntKind.u32.wrap (h1 + b), IntKind.u32.wrap (h2 + c'), IntKind.u32.wrap (h3 + d), IntKind.u32.wrap (h4 + e)) := by unfold doneF; rw [HST.out]
                  rw [hfin]
                  exact bodyPost_ret (results_cell_row rfl _ _ g6 42 #[.int .u32 (IntKind.u32.wrap (h0 + a)), .int .u32 (IntKind.u32.wrap (h1 + b)), .int .u32 (IntKind.u32.wrap (h2 + c')), .int .u32 (IntKind.u32.wrap (h3 + d)), .int .u32 (IntKind.u32.wrap (h4 + e))] (0, 0) _ rfl HA10.out Tryd.underlying42 rfl (by kernel_rfl)) rfl ⟨rfl, B10.out⟩
end Go.Proofs.YtbldecdipicddaaDoor.Hand
