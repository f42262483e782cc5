/- The contract of sha.do. Written by wip/s1/mkdo.py. -/
import Derived.Test.YtbldecdipicddaaDoorHAux
set_option linter.unusedSimpArgs false
set_option linter.unusedVariables false
namespace Go.Proofs.YtbldecdipicddaaDoor.Hand
open Go Go.RowKit Go.Proofs.YtbldecdipicddaaDoorW.PrintWords Go.Proofs.YtbldecdipicddaaDoorW.PrintLast
theorem word_at {W : World} {g t n : Nat} {k : IntKind} {ws : List Int} (h : W.heap[g]? = some (.cells (ws.map (Value.int k)).toArray t (0, 0))) (hl : ws.length = n) (j : Nat) (hj : j < n) : W.cell? ⟨g, j, none⟩ = some (.int k (ws.getD j 0)) := by
  subst hl
  rw [blk_cell h]
  simp [List.getD_eq_getElem?_getD, hj]
def ldw (l : List Int) : Nat → List Int
  | 0 => List.replicate 16 0
  | i + 1 => (ldw l i).set (i / 4) (Go.bits .or .u32 ((ldw l i).getD (i / 4) 0 * 256 % 4294967296) (l.getD i 0 % 4294967296))
theorem ldw_length (l : List Int) : ∀ i, (ldw l i).length = 16
  | 0 => rfl
  | i + 1 => by rw [ldw, List.length_set]; exact ldw_length l i
theorem word_at' {W : World} {g t n : Nat} {k : IntKind} {ws : List Int} (h : W.heap[g]? = some (.cells (ws.map (Value.int k)).toArray t (0, 0))) (hl : ws.length = n) (j : Nat) (hj : j < n) {x : Int} (hx : ws.getD j 0 = x) : W.cell? ⟨g, j, none⟩ = some (.int k x) := hx ▸ word_at h hl j hj
theorem ar_w (t k : Nat) (h : t < 80) (hk : k < 100) : wrap64 ((t : Int) + (k : Int)) = (t : Int) + (k : Int) := by unfold wrap64; omega
theorem ar_m (t k : Nat) : Int.tmod ((t : Int) + (k : Int)) 16 = ((t : Int) + (k : Int)) % 16 := Int.tmod_eq_emod_of_nonneg (by omega)
theorem ar_p (t k : Nat) : (0 ≤ ((t : Int) + (k : Int)) % 16) = True := eq_true (by omega)
theorem ar_q (t k : Nat) : (((t : Int) + (k : Int)) % 16 < 16) = True := eq_true (by omega)
theorem ar_n (t k : Nat) : (((t : Int) + (k : Int)) % 16).toNat = (t + k) % 16 := by omega
theorem ar_d (t : Nat) : Int.tdiv (t : Int) 20 = (t : Int) / 20 := Int.tdiv_eq_ediv_of_nonneg (by omega)
theorem ar_wd (t : Nat) (h : t < 80) : wrap64 ((t : Int) / 20) = (t : Int) / 20 := by unfold wrap64; omega
theorem ar_dp (t : Nat) : (0 ≤ (t : Int) / 20) = True := eq_true (by omega)
theorem ar_dq (t : Nat) (h : t < 80) : ((t : Int) / 20 < 4) = True := eq_true (by omega)
theorem ar_dn (t : Nat) : ((t : Int) / 20).toNat = t / 20 := by omega
theorem ar_d4 (t : Nat) (h : t < 80) : t / 20 < 4 := by omega
theorem ar_m0 (t : Nat) : Int.tmod (t : Int) 16 = (t : Int) % 16 := Int.tmod_eq_emod_of_nonneg (by omega)
theorem ar_p0 (t : Nat) : (0 ≤ (t : Int) % 16) = True := eq_true (by omega)
theorem ar_q0 (t : Nat) : ((t : Int) % 16 < 16) = True := eq_true (by omega)
theorem ar_n0 (t : Nat) : ((t : Int) % 16).toNat = t % 16 := by omega
def rot (n : Nat) (x : Int) : Int := Go.bits .or .u32 (x * 2 ^ n % 4294967296) (x / 2 ^ (32 - n))
theorem rot1_calls (x : Int) (w : World) : Calls Tryd.prog 91 #[.int .u32 x, .int .i64 1] w fun e w' => e = .returned (.int .u32 (rot 1 x)) ∧ w = w' := by
  have e1 : Go.bits .and .u64 1 31 = 1 := by decide
  go_enter Tryd.func91, Tryd.ntmps91
  go_wp2
  go_ret
  exact ⟨rfl, rfl⟩
theorem rot5_calls (x : Int) (w : World) : Calls Tryd.prog 91 #[.int .u32 x, .int .i64 5] w fun e w' => e = .returned (.int .u32 (rot 5 x)) ∧ w = w' := by
  have e1 : Go.bits .and .u64 5 31 = 5 := by decide
  go_enter Tryd.func91, Tryd.ntmps91
  go_wp2
  go_ret
  exact ⟨rfl, rfl⟩
theorem rot30_calls (x : Int) (w : World) : Calls Tryd.prog 91 #[.int .u32 x, .int .i64 30] w fun e w' => e = .returned (.int .u32 (rot 30 x)) ∧ w = w' := by
  have e1 : Go.bits .and .u64 30 31 = 30 := by decide
  go_enter Tryd.func91, Tryd.ntmps91
  go_wp2
  go_ret
  exact ⟨rfl, rfl⟩
def mixv (q b c d : Int) : Int := if q = 0 then Go.bits .xor .u32 d (Go.bits .and .u32 b (Go.bits .xor .u32 c d)) else if q = 2 then Go.bits .or .u32 (Go.bits .and .u32 b c) (Go.bits .and .u32 d (Go.bits .or .u32 b c)) else Go.bits .xor .u32 (Go.bits .xor .u32 b c) d
theorem mix_calls (q b c d : Int) (w : World) : Calls Tryd.prog 92 #[.int .i64 q, .int .u32 b, .int .u32 c, .int .u32 d] w fun e w' => e = .returned (.int .u32 (mixv q b c d)) ∧ w = w' := by
  unfold mixv
  by_cases h0 : q = 0
  · subst h0
    go_enter Tryd.func92, Tryd.ntmps92
    go_wp2
    go_ret
    exact ⟨rfl, rfl⟩
  by_cases h2 : q = 2
  · subst h2
    go_enter Tryd.func92, Tryd.ntmps92
    go_wp2
    go_ret
    exact ⟨rfl, rfl⟩
  · rw [if_neg h0, if_neg h2]
    have e0 : (q == 0) = false := by simpa using h0
    have e2 : (q == 2) = false := by simpa using h2
    have d0 : decide (q = 0) = false := by simpa using h0
    have d2 : decide (q = 2) = false := by simpa using h2
    clear h0 h2
    go_enter Tryd.func92, Tryd.ntmps92
    go_wp2
    go_ret
    exact ⟨rfl, rfl⟩
def wnext (t : Nat) (ws : List Int) : List Int := if 16 ≤ t then ws.set (t % 16) (rot 1 (Go.bits .xor .u32 (Go.bits .xor .u32 (Go.bits .xor .u32 (ws.getD ((t + 13) % 16) 0) (ws.getD ((t + 8) % 16) 0)) (ws.getD ((t + 2) % 16) 0)) (ws.getD (t % 16) 0))) else ws
def stp (t : Nat) (s : (Int × Int × Int × Int × Int) × List Int) : (Int × Int × Int × Int × Int) × List Int :=
  match s with
  | ((a, b, c, d, e), ws) => ((((((rot 5 a + mixv ((t : Int) / 20) b c d) % 4294967296 + e) % 4294967296 + qua (t / 20)) % 4294967296 + (wnext t ws).getD (t % 16) 0) % 4294967296, a, rot 30 b, c, d), wnext t ws)
def rnd (h0 h1 h2 h3 h4 : Int) (ws0 : List Int) : Nat → (Int × Int × Int × Int × Int) × List Int
  | 0 => ((h0, h1, h2, h3, h4), ws0)
  | t + 1 => stp t (rnd h0 h1 h2 h3 h4 ws0 t)
theorem wnext_length (t : Nat) (ws : List Int) : (wnext t ws).length = ws.length := by
  unfold wnext
  split
  · rw [List.length_set]
  · rfl
def doF (h0 h1 h2 h3 h4 : Int) (l : List Int) : Int × Int × Int × Int × Int :=
  match (rnd h0 h1 h2 h3 h4 (ldw l 64) 80).1 with
  | (a, b, c, d, e) => ((h0 + a) % 4294967296, (h1 + b) % 4294967296, (h2 + c) % 4294967296, (h3 + d) % 4294967296, (h4 + e) % 4294967296)
theorem stp_length (t : Nat) (s : (Int × Int × Int × Int × Int) × List Int) : (stp t s).2.length = s.2.length := by
  obtain ⟨⟨a, b, c, d, e⟩, ws⟩ := s
  exact wnext_length t ws
theorem rnd_length (h0 h1 h2 h3 h4 : Int) (ws0 : List Int) (h : ws0.length = 16) : ∀ t, (rnd h0 h1 h2 h3 h4 ws0 t).2.length = 16
  | 0 => h
  | t + 1 => (stp_length t _).trans (rnd_length h0 h1 h2 h3 h4 ws0 h t)
set_option maxHeartbeats 3200000 in
set_option maxRecDepth 100000 in
theorem do_calls (h0 h1 h2 h3 h4 : Int) (ad : Addr) (n c : Nat) (l : List Int) (w : World) (hT : TabQ w) (hr : Kd.C (Kd.int .u8) w (some ad) n l) (hl : l.length = n) (hn : 64 ≤ n) (hc : n ≤ c) :
    Calls Tryd.prog 70 #[.agg #[.int .u32 h0, .int .u32 h1, .int .u32 h2, .int .u32 h3, .int .u32 h4], .slice (some ad) n c] w fun e w' => e = .returned (.agg #[.int .u32 (doF h0 h1 h2 h3 h4 l).1, .int .u32 (doF h0 h1 h2 h3 h4 l).2.1, .int .u32 (doF h0 h1 h2 h3 h4 l).2.2.1, .int .u32 (doF h0 h1 h2 h3 h4 l).2.2.2.1, .int .u32 (doF h0 h1 h2 h3 h4 l).2.2.2.2]) ∧ Below w.heap.size w w' := by
  have HT := Aside0.mk hT
  have HR := Aside0.mk hr
  have HL := Aside0.mk hl
  have HN := Aside0.mk hn
  have HC := Aside0.mk hc
  clear hT hr hl
  have q1 : (64 ≤ (c : Int)) = True := eq_true (by omega)
  have q2 : (c = 0) = False := eq_false (by omega)
  clear hn hc
  go_enter Tryd.func70, Tryd.ntmps70
  go_wp2_with (first | ((with_reducible refine gate_dst (N := 2) rfl ?_); refine box_event ?hg (N := 2) ?hd (cs := #[.int .u32 h0, .int .u32 h1, .int .u32 h2, .int .u32 h3, .int .u32 h4]) (t := 42) ?hr ?_; (case hd => rfl); (case hg => rfl); (case hr => first | (go_simp; done) | (go_simp; rfl)); intro g1 hgg1 w2 hhg1 hbg1; have H5 := Aside0.mk hhg1; have G3 : w.heap.size ≤ g1 := Nat.le_of_eq hgg1.symm; have B4 := Aside0.mk (hbg1); clear hgg1 hhg1 hbg1) | ((with_reducible refine gate_dst (N := 4) rfl ?_); refine box_event ?hg (N := 4) ?hd (cs := #[.int .u32 0, .int .u32 0, .int .u32 0, .int .u32 0, .int .u32 0]) (t := 42) ?hr ?_; (case hd => rfl); (case hg => rfl); (case hr => first | (go_simp; done) | (go_simp; rfl)); intro g6 hgg6 w7 hhg6 hbg6; have H12 := Aside0.mk hhg6; have N8 : g1 ≠ g6 := Nat.ne_of_lt (Nat.lt_of_lt_of_eq (blk_lt H5.out) hgg6.symm); have G9 : w.heap.size ≤ g6 := Nat.le_trans B4.out.size (Nat.le_of_eq hgg6.symm); have B10 := Aside0.mk (below_step B4.out hbg6); have H11 := Aside0.mk (blk_below H5.out hbg6); clear hgg6 hhg6 hbg6 B4 H5) | ((with_reducible refine gate_dst (N := 5) rfl ?_); refine box_event ?hg (N := 5) ?hd (cs := #[.int .u32 0, .int .u32 0, .int .u32 0, .int .u32 0, .int .u32 0, .int .u32 0, .int .u32 0, .int .u32 0, .int .u32 0, .int .u32 0, .int .u32 0, .int .u32 0, .int .u32 0, .int .u32 0, .int .u32 0, .int .u32 0]) (t := 118) ?hr ?_; (case hd => rfl); (case hg => rfl); (case hr => first | (go_simp; done) | (go_simp; rfl)); intro g13 hgg13 w14 hhg13 hbg13; have H21 := Aside0.mk hhg13; have N15 : g1 ≠ g13 := Nat.ne_of_lt (Nat.lt_of_lt_of_eq (blk_lt H11.out) hgg13.symm); have N16 : g6 ≠ g13 := Nat.ne_of_lt (Nat.lt_of_lt_of_eq (blk_lt H12.out) hgg13.symm); have G17 : w.heap.size ≤ g13 := Nat.le_trans B10.out.size (Nat.le_of_eq hgg13.symm); have B18 := Aside0.mk (below_step B10.out hbg13); have H19 := Aside0.mk (blk_below H11.out hbg13); have H20 := Aside0.mk (blk_below H12.out hbg13); clear hgg13 hhg13 hbg13 B10 H11 H12))
  go_loopg [18] 64 (fun n v18 w' => ∃ (i : Nat) (ws : List Int), v18 = .int .i64 (i : Int) ∧ Aside0 (i + n = 64) ∧ Aside0 (ws = ldw l i) ∧ Aside0 (w'.heap[g1]? = some (.cells #[.int .u32 h0, .int .u32 h1, .int .u32 h2, .int .u32 h3, .int .u32 h4] 42 (0, 0))) ∧ Aside0 (w'.heap[g6]? = some (.cells #[.int .u32 0, .int .u32 0, .int .u32 0, .int .u32 0, .int .u32 0] 42 (0, 0))) ∧ Aside0 (w'.heap[g13]? = some (.cells (ws.map (Value.int .u32)).toArray 118 (0, 0))) ∧ Aside0 (Below w.heap.size w w'))
  case atStart => exact ⟨0, List.replicate 16 0, rfl, ⟨rfl⟩, ⟨rfl⟩, H19, H20, ⟨H21.out⟩, B18⟩
  case round =>
    clear H19 H20 H21 B18
    obtain ⟨i, ws, rfl, HK, HWE, HA2, HA4, HW, BB⟩ := hrel
    have HWL := Aside0.mk (show ws.length = 16 by rw [HWE.out]; exact ldw_length l i)
    by_cases hk : i < 64
    · obtain ⟨go, rfl⟩ : ∃ j, gk = j + 1 := ⟨gk - 1, by have := HK.out; omega⟩
      have hi1 : ((i : Int) < 64) = True := eq_true (by omega)
      obtain ⟨x, hx⟩ : ∃ x : Int, l.getD i 0 = x := ⟨_, rfl⟩
      have HX := Aside0.mk hx
      have hcell := C_getb (Kd.C_below HR.out BB.out) HL.out i (by have := HN.out; omega) hx
      clear hx
      have hcl : i / 4 < ((ws.map (Value.int .u32)).toArray : Array Value).size := by have := HWL.out; simp; omega
      have hb := word_at HW.out HWL.out (i / 4) (by omega)
      have hf := blk_frozen HW.out (i / 4)
      obtain ⟨wv, hwv⟩ : ∃ v : Int, ws.getD (i / 4) 0 = v := ⟨_, rfl⟩
      rw [hwv] at hb
      have HWV := Aside0.mk hwv
      clear hwv
      have HW2 := Aside0.mk (blk_put (cs' := ((ws.set (i / 4) (Go.bits .or .u32 (wv * 256 % 4294967296) (x % 4294967296))).map (Value.int .u32)).toArray) HW.out (i / 4) (.int .u32 (Go.bits .or .u32 (wv * 256 % 4294967296) (x % 4294967296))) (by simp [List.map_set]))
      have HA22 := Aside0.mk (blk_far HA2.out (p := ⟨g13, i / 4, none⟩) N15 (.int .u32 (Go.bits .or .u32 (wv * 256 % 4294967296) (x % 4294967296))))
      have HA42 := Aside0.mk (blk_far HA4.out (p := ⟨g13, i / 4, none⟩) N16 (.int .u32 (Go.bits .or .u32 (wv * 256 % 4294967296) (x % 4294967296))))
      have BB2 := Aside0.mk (below_set (j := i / 4) (v := .int .u32 (Go.bits .or .u32 (wv * 256 % 4294967296) (x % 4294967296))) BB.out G17)
      clear HW HA2 HA4 BB
      go_wp2_with fail
      go_roundg go
      case measure => have := HK.out; omega
      case rel => exact ⟨i + 1, _, by go_num, ⟨by have := HK.out; omega⟩, ⟨by rw [← HWV.out, ← HX.out, HWE.out]; rfl⟩, HA22, HA42, HW2, BB2⟩
    · obtain rfl : i = 64 := by have := HK.out; omega
      simp only [show ((64 : Nat) : Int) = 64 from rfl]
      go_wp2_with fail
      have HA25 := Aside0.mk (blk_drew HA2.out)
      have HA45 := Aside0.mk (blk_drew HA4.out)
      have HW5 := Aside0.mk (blk_drew HW.out)
      have B5 := Aside0.mk (below_drew BB.out)
      clear HA2 HA4 HW BB
      refine start_ (n := 15) (S := fun w' => w'.cell? ⟨g1, 0, none⟩ = some (.int .u32 h0) ∧ w'.cell? ⟨g1, 1, none⟩ = some (.int .u32 h1) ∧ w'.cell? ⟨g1, 2, none⟩ = some (.int .u32 h2) ∧ w'.cell? ⟨g1, 3, none⟩ = some (.int .u32 h3) ∧ w'.cell? ⟨g1, 4, none⟩ = some (.int .u32 h4)) (ds := []) #[false, false, false, false, false, false, false, false, false, false, false, false, false, false, false] (by kernel_rfl) rfl rfl ⟨((blk_cell HA25.out 0).trans rfl), ((blk_cell HA25.out 1).trans rfl), ((blk_cell HA25.out 2).trans rfl), ((blk_cell HA25.out 3).trans rfl), ((blk_cell HA25.out 4).trans rfl)⟩ (fun hHeld => ?_)
      generalize World.drew wr = w5 at HA25 HA45 HW5 B5 hHeld ⊢
      refine pure_ (i := 0) (N := some 35) (v := ?_) (a' := ?_) #[true, false, false, false, false, false, false, false, false, false, false, false, false, false, false] rfl rfl (by kernel_rfl) (fun _ _ _ h => h) (Or.inl ⟨by rfl, ?_⟩) ?_ ?_
      rotate_left
      · intro w'
        go_simp
        with_reducible rfl
      rotate_left
      · simp only [Act.put, List.setIfInBounds_toArray, List.set_cons_zero, List.set_cons_succ, i64_w, i32_w]
        rfl
      refine pure_ (i := 2) (N := some 37) (v := ?_) (a' := ?_) #[true, false, true, false, false, false, false, false, false, false, false, false, false, false, false] rfl rfl (by kernel_rfl) (fun _ _ _ h => h) (Or.inl ⟨by rfl, ?_⟩) ?_ ?_
      rotate_left
      · intro w'
        go_simp
        with_reducible rfl
      rotate_left
      · simp only [Act.put, List.setIfInBounds_toArray, List.set_cons_zero, List.set_cons_succ, i64_w, i32_w]
        rfl
      refine pure_ (i := 4) (N := some 39) (v := ?_) (a' := ?_) #[true, false, true, false, true, false, false, false, false, false, false, false, false, false, false] rfl rfl (by kernel_rfl) (fun _ _ _ h => h) (Or.inl ⟨by rfl, ?_⟩) ?_ ?_
      rotate_left
      · intro w'
        go_simp
        with_reducible rfl
      rotate_left
      · simp only [Act.put, List.setIfInBounds_toArray, List.set_cons_zero, List.set_cons_succ, i64_w, i32_w]
        rfl
      refine pure_ (i := 6) (N := some 41) (v := ?_) (a' := ?_) #[true, false, true, false, true, false, true, false, false, false, false, false, false, false, false] rfl rfl (by kernel_rfl) (fun _ _ _ h => h) (Or.inl ⟨by rfl, ?_⟩) ?_ ?_
      rotate_left
      · intro w'
        go_simp
        with_reducible rfl
      rotate_left
      · simp only [Act.put, List.setIfInBounds_toArray, List.set_cons_zero, List.set_cons_succ, i64_w, i32_w]
        rfl
      refine pure_ (i := 8) (N := some 43) (v := ?_) (a' := ?_) #[true, false, true, false, true, false, true, false, true, false, false, false, false, false, false] rfl rfl (by kernel_rfl) (fun _ _ _ h => h) (Or.inl ⟨by rfl, ?_⟩) ?_ ?_
      rotate_left
      · intro w'
        go_simp
        with_reducible rfl
      rotate_left
      · simp only [Act.put, List.setIfInBounds_toArray, List.set_cons_zero, List.set_cons_succ, i64_w, i32_w]
        rfl
      refine take_ (i := 1) (N := some 36) (v := ?_) (a' := ?_) #[true, true, true, false, true, false, true, false, true, false, false, false, false, false, false] rfl rfl (by kernel_rfl) (fun _ _ _ h => h) (Or.inl ⟨by rfl, ?_⟩) hHeld ?_ ?_
      rotate_left
      · rintro w' ⟨s0, s1, s2, s3, s4⟩
        go_simp
        with_reducible rfl
      rotate_left
      · simp only [Act.put, List.setIfInBounds_toArray, List.set_cons_zero, List.set_cons_succ, i64_w, i32_w]
        rfl
      refine pure_ (i := 10) (N := some 8) (v := ?_) (a' := ?_) #[true, true, true, false, true, false, true, false, true, false, true, false, false, false, false] rfl rfl (by kernel_rfl) (fun _ _ _ h => h) (Or.inl ⟨by rfl, ?_⟩) ?_ ?_
      rotate_left
      · intro w'
        go_simp
        with_reducible rfl
      rotate_left
      · simp only [Act.put, List.setIfInBounds_toArray, List.set_cons_zero, List.set_cons_succ, i64_w, i32_w]
        rfl
      refine take_ (i := 3) (N := some 38) (v := ?_) (a' := ?_) #[true, true, true, true, true, false, true, false, true, false, true, false, false, false, false] rfl rfl (by kernel_rfl) (fun _ _ _ h => h) (Or.inl ⟨by rfl, ?_⟩) hHeld ?_ ?_
      rotate_left
      · rintro w' ⟨s0, s1, s2, s3, s4⟩
        go_simp
        with_reducible rfl
      rotate_left
      · simp only [Act.put, List.setIfInBounds_toArray, List.set_cons_zero, List.set_cons_succ, i64_w, i32_w]
        rfl
      refine pure_ (i := 11) (N := some 9) (v := ?_) (a' := ?_) #[true, true, true, true, true, false, true, false, true, false, true, true, false, false, false] rfl rfl (by kernel_rfl) (fun _ _ _ h => h) (Or.inl ⟨by rfl, ?_⟩) ?_ ?_
      rotate_left
      · intro w'
        go_simp
        with_reducible rfl
      rotate_left
      · simp only [Act.put, List.setIfInBounds_toArray, List.set_cons_zero, List.set_cons_succ, i64_w, i32_w]
        rfl
      refine take_ (i := 5) (N := some 40) (v := ?_) (a' := ?_) #[true, true, true, true, true, true, true, false, true, false, true, true, false, false, false] rfl rfl (by kernel_rfl) (fun _ _ _ h => h) (Or.inl ⟨by rfl, ?_⟩) hHeld ?_ ?_
      rotate_left
      · rintro w' ⟨s0, s1, s2, s3, s4⟩
        go_simp
        with_reducible rfl
      rotate_left
      · simp only [Act.put, List.setIfInBounds_toArray, List.set_cons_zero, List.set_cons_succ, i64_w, i32_w]
        rfl
      refine pure_ (i := 12) (N := some 10) (v := ?_) (a' := ?_) #[true, true, true, true, true, true, true, false, true, false, true, true, true, false, false] rfl rfl (by kernel_rfl) (fun _ _ _ h => h) (Or.inl ⟨by rfl, ?_⟩) ?_ ?_
      rotate_left
      · intro w'
        go_simp
        with_reducible rfl
      rotate_left
      · simp only [Act.put, List.setIfInBounds_toArray, List.set_cons_zero, List.set_cons_succ, i64_w, i32_w]
        rfl
      refine take_ (i := 7) (N := some 42) (v := ?_) (a' := ?_) #[true, true, true, true, true, true, true, true, true, false, true, true, true, false, false] rfl rfl (by kernel_rfl) (fun _ _ _ h => h) (Or.inl ⟨by rfl, ?_⟩) hHeld ?_ ?_
      rotate_left
      · rintro w' ⟨s0, s1, s2, s3, s4⟩
        go_simp
        with_reducible rfl
      rotate_left
      · simp only [Act.put, List.setIfInBounds_toArray, List.set_cons_zero, List.set_cons_succ, i64_w, i32_w]
        rfl
      refine pure_ (i := 13) (N := some 11) (v := ?_) (a' := ?_) #[true, true, true, true, true, true, true, true, true, false, true, true, true, true, false] rfl rfl (by kernel_rfl) (fun _ _ _ h => h) (Or.inl ⟨by rfl, ?_⟩) ?_ ?_
      rotate_left
      · intro w'
        go_simp
        with_reducible rfl
      rotate_left
      · simp only [Act.put, List.setIfInBounds_toArray, List.set_cons_zero, List.set_cons_succ, i64_w, i32_w]
        rfl
      refine take_ (i := 9) (N := some 44) (v := ?_) (a' := ?_) #[true, true, true, true, true, true, true, true, true, true, true, true, true, true, false] rfl rfl (by kernel_rfl) (fun _ _ _ h => h) (Or.inl ⟨by rfl, ?_⟩) hHeld ?_ ?_
      rotate_left
      · rintro w' ⟨s0, s1, s2, s3, s4⟩
        go_simp
        with_reducible rfl
      rotate_left
      · simp only [Act.put, List.setIfInBounds_toArray, List.set_cons_zero, List.set_cons_succ, i64_w, i32_w]
        rfl
      refine pure_ (i := 14) (N := some 12) (v := ?_) (a' := ?_) #[true, true, true, true, true, true, true, true, true, true, true, true, true, true, true] rfl rfl (by kernel_rfl) (fun _ _ _ h => h) (Or.inl ⟨by rfl, ?_⟩) ?_ ?_
      rotate_left
      · intro w'
        go_simp
        with_reducible rfl
      rotate_left
      · simp only [Act.put, List.setIfInBounds_toArray, List.set_cons_zero, List.set_cons_succ, i64_w, i32_w]
        rfl
      refine done_ (by kernel_rfl) ?_
      clear hHeld
      go_wp2_with fail
      obtain ⟨ws0, HE0⟩ : ∃ ws0 : List Int, Aside0 (ws0 = ldw l 64 ∧ ws = ws0) := ⟨ws, ⟨HWE.out, rfl⟩⟩
      have HL0 := Aside0.mk (show ws0.length = 16 by rw [← HE0.out.2]; exact HWL.out)
      have hst : rnd h0 h1 h2 h3 h4 ws0 0 = ((h0, h1, h2, h3, h4), ws) := by rw [HE0.out.2]; rfl
      have HST := Aside0.mk hst
      clear hst HWE HWL HK
      go_loopg [8, 9, 10, 11, 12, 45] 80 (fun n v8 v9 v10 v11 v12 v45 w' => ∃ (t : Nat) (a b c' d e : Int) (ws : List Int), v45 = .int .i64 (t : Int) ∧ v8 = .int .u32 a ∧ v9 = .int .u32 b ∧ v10 = .int .u32 c' ∧ v11 = .int .u32 d ∧ v12 = .int .u32 e ∧ Aside0 (t + n = 80) ∧ Aside0 (rnd h0 h1 h2 h3 h4 ws0 t = ((a, b, c', d, e), ws)) ∧ Aside0 (w'.heap[g1]? = some (.cells #[.int .u32 h0, .int .u32 h1, .int .u32 h2, .int .u32 h3, .int .u32 h4] 42 (0, 0))) ∧ Aside0 (w'.heap[g6]? = some (.cells #[.int .u32 0, .int .u32 0, .int .u32 0, .int .u32 0, .int .u32 0] 42 (0, 0))) ∧ Aside0 (w'.heap[g13]? = some (.cells (ws.map (Value.int .u32)).toArray 118 (0, 0))) ∧ Aside0 (Below w.heap.size w w'))
      case atStart => exact ⟨0, h0, h1, h2, h3, h4, ws, rfl, rfl, rfl, rfl, rfl, rfl, ⟨rfl⟩, HST, HA25, HA45, HW5, B5⟩
      case round =>
        clear HA25 HA45 HW5 B5 HST
        obtain ⟨t, a, b, c', d, e, ws, rfl, rfl, rfl, rfl, rfl, rfl, HK, HST, HA2, HA4, HW, BB⟩ := hrel
        have HWL := Aside0.mk (show ws.length = 16 by have := rnd_length h0 h1 h2 h3 h4 ws0 HL0.out t; rw [HST.out] at this; exact this)
        by_cases hk : t < 80
        · obtain ⟨go, rfl⟩ : ∃ j, gk = j + 1 := ⟨gk - 1, by have := HK.out; omega⟩
          have ht1 : ((t : Int) < 80) = True := eq_true (by omega)
          by_cases h16 : 16 ≤ t
          · have h161 : (16 ≤ (t : Int)) = True := eq_true (by omega)
            have h162 : decide (16 ≤ (t : Int)) = true := decide_eq_true (by omega)
            go_wp2_with fail
            obtain ⟨x1, hx1⟩ : ∃ v : Int, ws.getD ((t + 13) % 16) 0 = v := ⟨_, rfl⟩
            obtain ⟨x2, hx2⟩ : ∃ v : Int, ws.getD ((t + 8) % 16) 0 = v := ⟨_, rfl⟩
            obtain ⟨x3, hx3⟩ : ∃ v : Int, ws.getD ((t + 2) % 16) 0 = v := ⟨_, rfl⟩
            obtain ⟨x4, hx4⟩ : ∃ v : Int, ws.getD (t % 16) 0 = v := ⟨_, rfl⟩
            have HA25 := Aside0.mk (blk_drew HA2.out)
            have HA45 := Aside0.mk (blk_drew HA4.out)
            have HW5 := Aside0.mk (blk_drew HW.out)
            have B5 := Aside0.mk (below_drew BB.out)
            clear HA2 HA4 HW BB
            have em0 : Int.tmod (t : Int) 16 = (t : Int) % 16 := ar_m0 t
            have ep0 : (0 ≤ (t : Int) % 16) = True := ar_p0 t
            have eq0 : ((t : Int) % 16 < 16) = True := ar_q0 t
            have en0 : ((t : Int) % 16).toNat = t % 16 := ar_n0 t
            have ew13 : wrap64 ((t : Int) + 13) = ((t : Int) + 13) := ar_w t 13 hk (by decide)
            have em13 : Int.tmod ((t : Int) + 13) 16 = ((t : Int) + 13) % 16 := ar_m t 13
            have ep13 : (0 ≤ ((t : Int) + 13) % 16) = True := ar_p t 13
            have eq13 : (((t : Int) + 13) % 16 < 16) = True := ar_q t 13
            have en13 : (((t : Int) + 13) % 16).toNat = (t + 13) % 16 := ar_n t 13
            have ew8 : wrap64 ((t : Int) + 8) = ((t : Int) + 8) := ar_w t 8 hk (by decide)
            have em8 : Int.tmod ((t : Int) + 8) 16 = ((t : Int) + 8) % 16 := ar_m t 8
            have ep8 : (0 ≤ ((t : Int) + 8) % 16) = True := ar_p t 8
            have eq8 : (((t : Int) + 8) % 16 < 16) = True := ar_q t 8
            have en8 : (((t : Int) + 8) % 16).toNat = (t + 8) % 16 := ar_n t 8
            have ew2 : wrap64 ((t : Int) + 2) = ((t : Int) + 2) := ar_w t 2 hk (by decide)
            have em2 : Int.tmod ((t : Int) + 2) 16 = ((t : Int) + 2) % 16 := ar_m t 2
            have ep2 : (0 ≤ ((t : Int) + 2) % 16) = True := ar_p t 2
            have eq2 : (((t : Int) + 2) % 16 < 16) = True := ar_q t 2
            have en2 : (((t : Int) + 2) % 16).toNat = (t + 2) % 16 := ar_n t 2
            refine start_ (n := 27) (S := fun w' => w'.cell? ⟨g13, (t + 13) % 16, none⟩ = some (.int .u32 x1) ∧ w'.cell? ⟨g13, (t + 8) % 16, none⟩ = some (.int .u32 x2) ∧ w'.cell? ⟨g13, (t + 2) % 16, none⟩ = some (.int .u32 x3) ∧ w'.cell? ⟨g13, t % 16, none⟩ = some (.int .u32 x4)) (ds := [26]) #[false, false, false, false, false, false, false, false, false, false, false, false, false, false, false, false, false, false, false, false, false, false, false, false, false, false, false] (by kernel_rfl) rfl rfl ⟨(word_at' HW5.out HWL.out ((t + 13) % 16) (Nat.mod_lt _ (by decide)) hx1), (word_at' HW5.out HWL.out ((t + 8) % 16) (Nat.mod_lt _ (by decide)) hx2), (word_at' HW5.out HWL.out ((t + 2) % 16) (Nat.mod_lt _ (by decide)) hx3), (word_at' HW5.out HWL.out (t % 16) (Nat.mod_lt _ (by decide)) hx4)⟩ (fun hHeld => ?_)
            generalize World.drew wr = w5 at HA25 HA45 HW5 B5 hHeld ⊢
            refine pure_ (i := 0) (N := some 50) (v := ?_) (a' := ?_) #[true, false, false, false, false, false, false, false, false, false, false, false, false, false, false, false, false, false, false, false, false, false, false, false, false, false, false] rfl rfl (by kernel_rfl) (fun _ _ _ h => h) (Or.inl ⟨by rfl, ?_⟩) ?_ ?_
            rotate_left
            · intro w'
              go_simp
              with_reducible rfl
            rotate_left
            · simp only [Act.put, List.setIfInBounds_toArray, List.set_cons_zero, List.set_cons_succ, i64_w, i32_w]
              rfl
            refine pure_ (i := 1) (N := some 51) (v := ?_) (a' := ?_) #[true, true, false, false, false, false, false, false, false, false, false, false, false, false, false, false, false, false, false, false, false, false, false, false, false, false, false] rfl rfl (by kernel_rfl) (fun _ _ _ h => h) (Or.inl ⟨by rfl, ?_⟩) ?_ ?_
            rotate_left
            · intro w'
              go_simp
              with_reducible rfl
            rotate_left
            · simp only [Act.put, List.setIfInBounds_toArray, List.set_cons_zero, List.set_cons_succ, i64_w, i32_w]
              rfl
            refine pure_ (i := 2) (N := some 52) (v := ?_) (a' := ?_) #[true, true, true, false, false, false, false, false, false, false, false, false, false, false, false, false, false, false, false, false, false, false, false, false, false, false, false] rfl rfl (by kernel_rfl) (fun _ _ _ h => h) (Or.inl ⟨by rfl, ?_⟩) ?_ ?_
            rotate_left
            · intro w'
              go_simp
              with_reducible rfl
            rotate_left
            · simp only [Act.put, List.setIfInBounds_toArray, List.set_cons_zero, List.set_cons_succ, i64_w, i32_w]
              rfl
            refine pure_ (i := 3) (N := some 53) (v := ?_) (a' := ?_) #[true, true, true, true, false, false, false, false, false, false, false, false, false, false, false, false, false, false, false, false, false, false, false, false, false, false, false] rfl rfl (by kernel_rfl) (fun _ _ _ h => h) (Or.inl ⟨by rfl, ?_⟩) ?_ ?_
            rotate_left
            · intro w'
              go_simp
              with_reducible rfl
            rotate_left
            · simp only [Act.put, List.setIfInBounds_toArray, List.set_cons_zero, List.set_cons_succ, i64_w, i32_w]
              rfl
            refine pure_ (i := 4) (N := some 54) (v := ?_) (a' := ?_) #[true, true, true, true, true, false, false, false, false, false, false, false, false, false, false, false, false, false, false, false, false, false, false, false, false, false, false] rfl rfl (by kernel_rfl) (fun _ _ _ h => h) (Or.inl ⟨by rfl, ?_⟩) ?_ ?_
            rotate_left
            · intro w'
              go_simp
              with_reducible rfl
            rotate_left
            · simp only [Act.put, List.setIfInBounds_toArray, List.set_cons_zero, List.set_cons_succ, i64_w, i32_w]
              rfl
            refine pure_ (i := 5) (N := some 55) (v := ?_) (a' := ?_) #[true, true, true, true, true, true, false, false, false, false, false, false, false, false, false, false, false, false, false, false, false, false, false, false, false, false, false] rfl rfl (by kernel_rfl) (fun _ _ _ h => h) (Or.inl ⟨by rfl, ?_⟩) ?_ ?_
            rotate_left
            · intro w'
              go_simp
              with_reducible rfl
            rotate_left
            · simp only [Act.put, List.setIfInBounds_toArray, List.set_cons_zero, List.set_cons_succ, i64_w, i32_w]
              rfl
            refine pure_ (i := 7) (N := some 57) (v := ?_) (a' := ?_) #[true, true, true, true, true, true, false, true, false, false, false, false, false, false, false, false, false, false, false, false, false, false, false, false, false, false, false] rfl rfl (by kernel_rfl) (fun _ _ _ h => h) (Or.inl ⟨by rfl, ?_⟩) ?_ ?_
            rotate_left
            · intro w'
              go_simp
              with_reducible rfl
            rotate_left
            · simp only [Act.put, List.setIfInBounds_toArray, List.set_cons_zero, List.set_cons_succ, i64_w, i32_w]
              rfl
            refine pure_ (i := 8) (N := some 58) (v := ?_) (a' := ?_) #[true, true, true, true, true, true, false, true, true, false, false, false, false, false, false, false, false, false, false, false, false, false, false, false, false, false, false] rfl rfl (by kernel_rfl) (fun _ _ _ h => h) (Or.inl ⟨by rfl, ?_⟩) ?_ ?_
            rotate_left
            · intro w'
              go_simp
              with_reducible rfl
            rotate_left
            · simp only [Act.put, List.setIfInBounds_toArray, List.set_cons_zero, List.set_cons_succ, i64_w, i32_w]
              rfl
            refine pure_ (i := 9) (N := some 59) (v := ?_) (a' := ?_) #[true, true, true, true, true, true, false, true, true, true, false, false, false, false, false, false, false, false, false, false, false, false, false, false, false, false, false] rfl rfl (by kernel_rfl) (fun _ _ _ h => h) (Or.inl ⟨by rfl, ?_⟩) ?_ ?_
            rotate_left
            · intro w'
              go_simp
              with_reducible rfl
            rotate_left
            · simp only [Act.put, List.setIfInBounds_toArray, List.set_cons_zero, List.set_cons_succ, i64_w, i32_w]
              rfl
            refine pure_ (i := 10) (N := some 60) (v := ?_) (a' := ?_) #[true, true, true, true, true, true, false, true, true, true, true, false, false, false, false, false, false, false, false, false, false, false, false, false, false, false, false] rfl rfl (by kernel_rfl) (fun _ _ _ h => h) (Or.inl ⟨by rfl, ?_⟩) ?_ ?_
            rotate_left
            · intro w'
              go_simp
              with_reducible rfl
            rotate_left
            · simp only [Act.put, List.setIfInBounds_toArray, List.set_cons_zero, List.set_cons_succ, i64_w, i32_w]
              rfl
            refine pure_ (i := 13) (N := some 63) (v := ?_) (a' := ?_) #[true, true, true, true, true, true, false, true, true, true, true, false, false, true, false, false, false, false, false, false, false, false, false, false, false, false, false] rfl rfl (by kernel_rfl) (fun _ _ _ h => h) (Or.inl ⟨by rfl, ?_⟩) ?_ ?_
            rotate_left
            · intro w'
              go_simp
              with_reducible rfl
            rotate_left
            · simp only [Act.put, List.setIfInBounds_toArray, List.set_cons_zero, List.set_cons_succ, i64_w, i32_w]
              rfl
            refine pure_ (i := 14) (N := some 64) (v := ?_) (a' := ?_) #[true, true, true, true, true, true, false, true, true, true, true, false, false, true, true, false, false, false, false, false, false, false, false, false, false, false, false] rfl rfl (by kernel_rfl) (fun _ _ _ h => h) (Or.inl ⟨by rfl, ?_⟩) ?_ ?_
            rotate_left
            · intro w'
              go_simp
              with_reducible rfl
            rotate_left
            · simp only [Act.put, List.setIfInBounds_toArray, List.set_cons_zero, List.set_cons_succ, i64_w, i32_w]
              rfl
            refine pure_ (i := 15) (N := some 65) (v := ?_) (a' := ?_) #[true, true, true, true, true, true, false, true, true, true, true, false, false, true, true, true, false, false, false, false, false, false, false, false, false, false, false] rfl rfl (by kernel_rfl) (fun _ _ _ h => h) (Or.inl ⟨by rfl, ?_⟩) ?_ ?_
            rotate_left
            · intro w'
              go_simp
              with_reducible rfl
            rotate_left
            · simp only [Act.put, List.setIfInBounds_toArray, List.set_cons_zero, List.set_cons_succ, i64_w, i32_w]
              rfl
            refine pure_ (i := 16) (N := some 66) (v := ?_) (a' := ?_) #[true, true, true, true, true, true, false, true, true, true, true, false, false, true, true, true, true, false, false, false, false, false, false, false, false, false, false] rfl rfl (by kernel_rfl) (fun _ _ _ h => h) (Or.inl ⟨by rfl, ?_⟩) ?_ ?_
            rotate_left
            · intro w'
              go_simp
              with_reducible rfl
            rotate_left
            · simp only [Act.put, List.setIfInBounds_toArray, List.set_cons_zero, List.set_cons_succ, i64_w, i32_w]
              rfl
            refine pure_ (i := 19) (N := some 69) (v := ?_) (a' := ?_) #[true, true, true, true, true, true, false, true, true, true, true, false, false, true, true, true, true, false, false, true, false, false, false, false, false, false, false] rfl rfl (by kernel_rfl) (fun _ _ _ h => h) (Or.inl ⟨by rfl, ?_⟩) ?_ ?_
            rotate_left
            · intro w'
              go_simp
              with_reducible rfl
            rotate_left
            · simp only [Act.put, List.setIfInBounds_toArray, List.set_cons_zero, List.set_cons_succ, i64_w, i32_w]
              rfl
            refine pure_ (i := 20) (N := some 70) (v := ?_) (a' := ?_) #[true, true, true, true, true, true, false, true, true, true, true, false, false, true, true, true, true, false, false, true, true, false, false, false, false, false, false] rfl rfl (by kernel_rfl) (fun _ _ _ h => h) (Or.inl ⟨by rfl, ?_⟩) ?_ ?_
            rotate_left
            · intro w'
              go_simp
              with_reducible rfl
            rotate_left
            · simp only [Act.put, List.setIfInBounds_toArray, List.set_cons_zero, List.set_cons_succ, i64_w, i32_w]
              rfl
            refine pure_ (i := 21) (N := some 71) (v := ?_) (a' := ?_) #[true, true, true, true, true, true, false, true, true, true, true, false, false, true, true, true, true, false, false, true, true, true, false, false, false, false, false] rfl rfl (by kernel_rfl) (fun _ _ _ h => h) (Or.inl ⟨by rfl, ?_⟩) ?_ ?_
            rotate_left
            · intro w'
              go_simp
              with_reducible rfl
            rotate_left
            · simp only [Act.put, List.setIfInBounds_toArray, List.set_cons_zero, List.set_cons_succ, i64_w, i32_w]
              rfl
            refine take_ (i := 6) (N := some 56) (v := ?_) (a' := ?_) #[true, true, true, true, true, true, true, true, true, true, true, false, false, true, true, true, true, false, false, true, true, true, false, false, false, false, false] rfl rfl (by kernel_rfl) (fun _ _ _ h => h) (Or.inl ⟨by rfl, ?_⟩) hHeld ?_ ?_
            rotate_left
            · rintro w' ⟨s0, s1, s2, s3⟩
              go_simp
              with_reducible rfl
            rotate_left
            · simp only [Act.put, List.setIfInBounds_toArray, List.set_cons_zero, List.set_cons_succ, i64_w, i32_w]
              rfl
            refine take_ (i := 11) (N := some 61) (v := ?_) (a' := ?_) #[true, true, true, true, true, true, true, true, true, true, true, true, false, true, true, true, true, false, false, true, true, true, false, false, false, false, false] rfl rfl (by kernel_rfl) (fun _ _ _ h => h) (Or.inl ⟨by rfl, ?_⟩) hHeld ?_ ?_
            rotate_left
            · rintro w' ⟨s0, s1, s2, s3⟩
              go_simp
              with_reducible rfl
            rotate_left
            · simp only [Act.put, List.setIfInBounds_toArray, List.set_cons_zero, List.set_cons_succ, i64_w, i32_w]
              rfl
            refine pure_ (i := 12) (N := some 62) (v := ?_) (a' := ?_) #[true, true, true, true, true, true, true, true, true, true, true, true, true, true, true, true, true, false, false, true, true, true, false, false, false, false, false] rfl rfl (by kernel_rfl) (fun _ _ _ h => h) (Or.inl ⟨by rfl, ?_⟩) ?_ ?_
            rotate_left
            · intro w'
              go_simp
              with_reducible rfl
            rotate_left
            · simp only [Act.put, List.setIfInBounds_toArray, List.set_cons_zero, List.set_cons_succ, i64_w, i32_w]
              rfl
            refine take_ (i := 17) (N := some 67) (v := ?_) (a' := ?_) #[true, true, true, true, true, true, true, true, true, true, true, true, true, true, true, true, true, true, false, true, true, true, false, false, false, false, false] rfl rfl (by kernel_rfl) (fun _ _ _ h => h) (Or.inl ⟨by rfl, ?_⟩) hHeld ?_ ?_
            rotate_left
            · rintro w' ⟨s0, s1, s2, s3⟩
              go_simp
              with_reducible rfl
            rotate_left
            · simp only [Act.put, List.setIfInBounds_toArray, List.set_cons_zero, List.set_cons_succ, i64_w, i32_w]
              rfl
            refine pure_ (i := 18) (N := some 68) (v := ?_) (a' := ?_) #[true, true, true, true, true, true, true, true, true, true, true, true, true, true, true, true, true, true, true, true, true, true, false, false, false, false, false] rfl rfl (by kernel_rfl) (fun _ _ _ h => h) (Or.inl ⟨by rfl, ?_⟩) ?_ ?_
            rotate_left
            · intro w'
              go_simp
              with_reducible rfl
            rotate_left
            · simp only [Act.put, List.setIfInBounds_toArray, List.set_cons_zero, List.set_cons_succ, i64_w, i32_w]
              rfl
            refine take_ (i := 22) (N := some 72) (v := ?_) (a' := ?_) #[true, true, true, true, true, true, true, true, true, true, true, true, true, true, true, true, true, true, true, true, true, true, true, false, false, false, false] rfl rfl (by kernel_rfl) (fun _ _ _ h => h) (Or.inl ⟨by rfl, ?_⟩) hHeld ?_ ?_
            rotate_left
            · rintro w' ⟨s0, s1, s2, s3⟩
              go_simp
              with_reducible rfl
            rotate_left
            · simp only [Act.put, List.setIfInBounds_toArray, List.set_cons_zero, List.set_cons_succ, i64_w, i32_w]
              rfl
            refine pure_ (i := 23) (N := some 73) (v := ?_) (a' := ?_) #[true, true, true, true, true, true, true, true, true, true, true, true, true, true, true, true, true, true, true, true, true, true, true, true, false, false, false] rfl rfl (by kernel_rfl) (fun _ _ _ h => h) (Or.inl ⟨by rfl, ?_⟩) ?_ ?_
            rotate_left
            · intro w'
              go_simp
              with_reducible rfl
            rotate_left
            · simp only [Act.put, List.setIfInBounds_toArray, List.set_cons_zero, List.set_cons_succ, i64_w, i32_w]
              rfl
            refine one_ (i := 24) (N := some 74) #[true, true, true, true, true, true, true, true, true, true, true, true, true, true, true, true, true, true, true, true, true, true, true, true, true, false, false] rfl rfl (by kernel_rfl) (by decide) (fun K hK => ?_)
            refine goes_ Tryd.func91 (by kernel_rfl) rfl #[.int .u32 (Go.bits .xor .u32 (Go.bits .xor .u32 (Go.bits .xor .u32 x1 x2) x3) x4), .int .i64 1] (by rfl) rfl rfl (by simp only [List.map_toArray, List.map_cons, List.map_nil]; rfl) ?_
            with_reducible refine (rot1_calls _ _).mono ?_
            rintro e w7 ⟨rfl, rfl⟩
            refine ⟨_, rfl, ?_⟩
            refine hK.out _ _ ⟨(word_at' HW5.out HWL.out ((t + 13) % 16) (Nat.mod_lt _ (by decide)) hx1), (word_at' HW5.out HWL.out ((t + 8) % 16) (Nat.mod_lt _ (by decide)) hx2), (word_at' HW5.out HWL.out ((t + 2) % 16) (Nat.mod_lt _ (by decide)) hx3), (word_at' HW5.out HWL.out (t % 16) (Nat.mod_lt _ (by decide)) hx4)⟩ (fun hHeld => ?_)
            clear hK K
            refine norm_ (a' := ?_) ?_ ?_
            rotate_left
            · show Act.put _ (some 74) _ = _
              simp only [Act.put, List.setIfInBounds_toArray, List.set_cons_zero, List.set_cons_succ, i64_w, i32_w]
              rfl
            refine pure_ (i := 25) (N := some 75) (v := ?_) (a' := ?_) #[true, true, true, true, true, true, true, true, true, true, true, true, true, true, true, true, true, true, true, true, true, true, true, true, true, true, false] rfl rfl (by kernel_rfl) (fun _ _ _ h => h) (Or.inl ⟨by rfl, ?_⟩) ?_ ?_
            rotate_left
            · intro w'
              go_simp
              with_reducible rfl
            rotate_left
            · simp only [Act.put, List.setIfInBounds_toArray, List.set_cons_zero, List.set_cons_succ, i64_w, i32_w]
              rfl
            refine last_ (i := 26) (N := none) #[true, true, true, true, true, true, true, true, true, true, true, true, true, true, true, true, true, true, true, true, true, true, true, true, true, true, true] rfl rfl (by kernel_rfl) (by decide) (fun K hK => ?_)
            have hb := word_at' HW5.out HWL.out (t % 16) (Nat.mod_lt _ (by decide)) hx4
            have hf := blk_frozen HW5.out (t % 16)
            clear hHeld
            refine skip_ (w1 := ?_) (by rfl) rfl ?_ ?_
            rotate_left
            · go_simp
              rfl
            refine hK.out _ _ ?_
            clear hK K
            refine done_ (by kernel_rfl) ?_
            clear em0 ep0 eq0 en0 ew13 em13 ep13 eq13 en13 ew8 em8 ep8 eq8 en8 ew2 em2 ep2 eq2 en2
            have HW2 := Aside0.mk (blk_put (cs' := ((ws.set (t % 16) (rot 1 (Go.bits .xor .u32 (Go.bits .xor .u32 (Go.bits .xor .u32 x1 x2) x3) x4))).map (Value.int .u32)).toArray) HW5.out (t % 16) (.int .u32 (rot 1 (Go.bits .xor .u32 (Go.bits .xor .u32 (Go.bits .xor .u32 x1 x2) x3) x4))) (by simp [List.map_set]))
            have HA26 := Aside0.mk (blk_far HA25.out (p := ⟨g13, t % 16, none⟩) N15 (.int .u32 (rot 1 (Go.bits .xor .u32 (Go.bits .xor .u32 (Go.bits .xor .u32 x1 x2) x3) x4))))
            have HA46 := Aside0.mk (blk_far HA45.out (p := ⟨g13, t % 16, none⟩) N16 (.int .u32 (rot 1 (Go.bits .xor .u32 (Go.bits .xor .u32 (Go.bits .xor .u32 x1 x2) x3) x4))))
            have B6 := Aside0.mk (below_set (j := t % 16) (v := .int .u32 (rot 1 (Go.bits .xor .u32 (Go.bits .xor .u32 (Go.bits .xor .u32 x1 x2) x3) x4))) B5.out G17)
            have HWN := Aside0.mk (show wnext t ws = ws.set (t % 16) (rot 1 (Go.bits .xor .u32 (Go.bits .xor .u32 (Go.bits .xor .u32 x1 x2) x3) x4)) by unfold wnext; rw [if_pos h16, hx1, hx2, hx3, hx4])
            clear hb hf HW5 HA25 HA45 B5
            generalize World.setCell w5 ⟨g13, t % 16, none⟩ (.int .u32 (rot 1 (Go.bits .xor .u32 (Go.bits .xor .u32 (Go.bits .xor .u32 x1 x2) x3) x4))) = w6 at HW2 HA26 HA46 B6 ⊢
            go_wp2_with fail
            have em0 : Int.tmod (t : Int) 16 = (t : Int) % 16 := ar_m0 t
            have ep0 : (0 ≤ (t : Int) % 16) = True := ar_p0 t
            have eq0 : ((t : Int) % 16 < 16) = True := ar_q0 t
            have en0 : ((t : Int) % 16).toNat = t % 16 := ar_n0 t
            have ed := ar_d t
            have ewd := ar_wd t hk
            have edp := ar_dp t
            have edq := ar_dq t hk
            have edn := ar_dn t
            obtain ⟨qv, hqv⟩ : ∃ v : Int, v = qua (t / 20) := ⟨_, rfl⟩
            obtain ⟨wv, hwv⟩ : ∃ v : Int, (ws.set (t % 16) (rot 1 (Go.bits .xor .u32 (Go.bits .xor .u32 (Go.bits .xor .u32 x1 x2) x3) x4))).getD (t % 16) 0 = v := ⟨_, rfl⟩
            have HA27 := Aside0.mk (blk_drew HA26.out)
            have HA47 := Aside0.mk (blk_drew HA46.out)
            have HW7 := Aside0.mk (blk_drew HW2.out)
            have B7 := Aside0.mk (below_drew B6.out)
            have HWL7 := Aside0.mk (show ((ws.set (t % 16) (rot 1 (Go.bits .xor .u32 (Go.bits .xor .u32 (Go.bits .xor .u32 x1 x2) x3) x4)))).length = 16 by rw [List.length_set]; exact HWL.out)
            clear HA26 HA46 HW2 B6
            refine start_ (n := 22) (S := fun w' => w'.cell? ⟨1, t / 20, none⟩ = some (.int .u32 qv) ∧ w'.cell? ⟨g13, t % 16, none⟩ = some (.int .u32 wv)) (ds := []) #[false, false, false, false, false, false, false, false, false, false, false, false, false, false, false, false, false, false, false, false, false, false] (by kernel_rfl) rfl rfl ⟨(hqv ▸ (HT.out.at B7.out).cell (ar_d4 t hk)), (word_at' HW7.out HWL7.out (t % 16) (Nat.mod_lt _ (by decide)) hwv)⟩ (fun hHeld => ?_)
            generalize World.drew w6 = w7 at HA27 HA47 HW7 B7 hHeld ⊢
            refine pure_ (i := 0) (N := some 76) (v := ?_) (a' := ?_) #[true, false, false, false, false, false, false, false, false, false, false, false, false, false, false, false, false, false, false, false, false, false] rfl rfl (by kernel_rfl) (fun _ _ _ h => h) (Or.inl ⟨by rfl, ?_⟩) ?_ ?_
            rotate_left
            · intro w'
              go_simp
              with_reducible rfl
            rotate_left
            · simp only [Act.put, List.setIfInBounds_toArray, List.set_cons_zero, List.set_cons_succ, i64_w, i32_w]
              rfl
            refine pure_ (i := 2) (N := some 78) (v := ?_) (a' := ?_) #[true, false, true, false, false, false, false, false, false, false, false, false, false, false, false, false, false, false, false, false, false, false] rfl rfl (by kernel_rfl) (fun _ _ _ h => h) (Or.inl ⟨by rfl, ?_⟩) ?_ ?_
            rotate_left
            · intro w'
              go_simp
              with_reducible rfl
            rotate_left
            · simp only [Act.put, List.setIfInBounds_toArray, List.set_cons_zero, List.set_cons_succ, i64_w, i32_w]
              rfl
            refine pure_ (i := 3) (N := some 79) (v := ?_) (a' := ?_) #[true, false, true, true, false, false, false, false, false, false, false, false, false, false, false, false, false, false, false, false, false, false] rfl rfl (by kernel_rfl) (fun _ _ _ h => h) (Or.inl ⟨by rfl, ?_⟩) ?_ ?_
            rotate_left
            · intro w'
              go_simp
              with_reducible rfl
            rotate_left
            · simp only [Act.put, List.setIfInBounds_toArray, List.set_cons_zero, List.set_cons_succ, i64_w, i32_w]
              rfl
            refine pure_ (i := 4) (N := some 80) (v := ?_) (a' := ?_) #[true, false, true, true, true, false, false, false, false, false, false, false, false, false, false, false, false, false, false, false, false, false] rfl rfl (by kernel_rfl) (fun _ _ _ h => h) (Or.inl ⟨by rfl, ?_⟩) ?_ ?_
            rotate_left
            · intro w'
              go_simp
              with_reducible rfl
            rotate_left
            · simp only [Act.put, List.setIfInBounds_toArray, List.set_cons_zero, List.set_cons_succ, i64_w, i32_w]
              rfl
            refine pure_ (i := 5) (N := some 81) (v := ?_) (a' := ?_) #[true, false, true, true, true, true, false, false, false, false, false, false, false, false, false, false, false, false, false, false, false, false] rfl rfl (by kernel_rfl) (fun _ _ _ h => h) (Or.inl ⟨by rfl, ?_⟩) ?_ ?_
            rotate_left
            · intro w'
              go_simp
              with_reducible rfl
            rotate_left
            · simp only [Act.put, List.setIfInBounds_toArray, List.set_cons_zero, List.set_cons_succ, i64_w, i32_w]
              rfl
            refine pure_ (i := 6) (N := some 82) (v := ?_) (a' := ?_) #[true, false, true, true, true, true, true, false, false, false, false, false, false, false, false, false, false, false, false, false, false, false] rfl rfl (by kernel_rfl) (fun _ _ _ h => h) (Or.inl ⟨by rfl, ?_⟩) ?_ ?_
            rotate_left
            · intro w'
              go_simp
              with_reducible rfl
            rotate_left
            · simp only [Act.put, List.setIfInBounds_toArray, List.set_cons_zero, List.set_cons_succ, i64_w, i32_w]
              rfl
            refine pure_ (i := 9) (N := some 85) (v := ?_) (a' := ?_) #[true, false, true, true, true, true, true, false, false, true, false, false, false, false, false, false, false, false, false, false, false, false] rfl rfl (by kernel_rfl) (fun _ _ _ h => h) (Or.inl ⟨by rfl, ?_⟩) ?_ ?_
            rotate_left
            · intro w'
              go_simp
              with_reducible rfl
            rotate_left
            · simp only [Act.put, List.setIfInBounds_toArray, List.set_cons_zero, List.set_cons_succ, i64_w, i32_w]
              rfl
            refine pure_ (i := 11) (N := some 87) (v := ?_) (a' := ?_) #[true, false, true, true, true, true, true, false, false, true, false, true, false, false, false, false, false, false, false, false, false, false] rfl rfl (by kernel_rfl) (fun _ _ _ h => h) (Or.inl ⟨by rfl, ?_⟩) ?_ ?_
            rotate_left
            · intro w'
              go_simp
              with_reducible rfl
            rotate_left
            · simp only [Act.put, List.setIfInBounds_toArray, List.set_cons_zero, List.set_cons_succ, i64_w, i32_w]
              rfl
            refine pure_ (i := 12) (N := some 88) (v := ?_) (a' := ?_) #[true, false, true, true, true, true, true, false, false, true, false, true, true, false, false, false, false, false, false, false, false, false] rfl rfl (by kernel_rfl) (fun _ _ _ h => h) (Or.inl ⟨by rfl, ?_⟩) ?_ ?_
            rotate_left
            · intro w'
              go_simp
              with_reducible rfl
            rotate_left
            · simp only [Act.put, List.setIfInBounds_toArray, List.set_cons_zero, List.set_cons_succ, i64_w, i32_w]
              rfl
            refine pure_ (i := 13) (N := some 89) (v := ?_) (a' := ?_) #[true, false, true, true, true, true, true, false, false, true, false, true, true, true, false, false, false, false, false, false, false, false] rfl rfl (by kernel_rfl) (fun _ _ _ h => h) (Or.inl ⟨by rfl, ?_⟩) ?_ ?_
            rotate_left
            · intro w'
              go_simp
              with_reducible rfl
            rotate_left
            · simp only [Act.put, List.setIfInBounds_toArray, List.set_cons_zero, List.set_cons_succ, i64_w, i32_w]
              rfl
            refine pure_ (i := 16) (N := some 92) (v := ?_) (a' := ?_) #[true, false, true, true, true, true, true, false, false, true, false, true, true, true, false, false, true, false, false, false, false, false] rfl rfl (by kernel_rfl) (fun _ _ _ h => h) (Or.inl ⟨by rfl, ?_⟩) ?_ ?_
            rotate_left
            · intro w'
              go_simp
              with_reducible rfl
            rotate_left
            · simp only [Act.put, List.setIfInBounds_toArray, List.set_cons_zero, List.set_cons_succ, i64_w, i32_w]
              rfl
            refine pure_ (i := 17) (N := some 93) (v := ?_) (a' := ?_) #[true, false, true, true, true, true, true, false, false, true, false, true, true, true, false, false, true, true, false, false, false, false] rfl rfl (by kernel_rfl) (fun _ _ _ h => h) (Or.inl ⟨by rfl, ?_⟩) ?_ ?_
            rotate_left
            · intro w'
              go_simp
              with_reducible rfl
            rotate_left
            · simp only [Act.put, List.setIfInBounds_toArray, List.set_cons_zero, List.set_cons_succ, i64_w, i32_w]
              rfl
            refine pure_ (i := 18) (N := some 94) (v := ?_) (a' := ?_) #[true, false, true, true, true, true, true, false, false, true, false, true, true, true, false, false, true, true, true, false, false, false] rfl rfl (by kernel_rfl) (fun _ _ _ h => h) (Or.inl ⟨by rfl, ?_⟩) ?_ ?_
            rotate_left
            · intro w'
              go_simp
              with_reducible rfl
            rotate_left
            · simp only [Act.put, List.setIfInBounds_toArray, List.set_cons_zero, List.set_cons_succ, i64_w, i32_w]
              rfl
            refine take_ (i := 14) (N := some 90) (v := ?_) (a' := ?_) #[true, false, true, true, true, true, true, false, false, true, false, true, true, true, true, false, true, true, true, false, false, false] rfl rfl (by kernel_rfl) (fun _ _ _ h => h) (Or.inl ⟨by rfl, ?_⟩) hHeld ?_ ?_
            rotate_left
            · rintro w' ⟨s0, s1⟩
              go_simp
              with_reducible rfl
            rotate_left
            · simp only [Act.put, List.setIfInBounds_toArray, List.set_cons_zero, List.set_cons_succ, i64_w, i32_w]
              rfl
            refine take_ (i := 19) (N := some 95) (v := ?_) (a' := ?_) #[true, false, true, true, true, true, true, false, false, true, false, true, true, true, true, false, true, true, true, true, false, false] rfl rfl (by kernel_rfl) (fun _ _ _ h => h) (Or.inl ⟨by rfl, ?_⟩) hHeld ?_ ?_
            rotate_left
            · rintro w' ⟨s0, s1⟩
              go_simp
              with_reducible rfl
            rotate_left
            · simp only [Act.put, List.setIfInBounds_toArray, List.set_cons_zero, List.set_cons_succ, i64_w, i32_w]
              rfl
            refine one_ (i := 1) (N := some 77) #[true, true, true, true, true, true, true, false, false, true, false, true, true, true, true, false, true, true, true, true, false, false] rfl rfl (by kernel_rfl) (by decide) (fun K hK => ?_)
            refine goes_ Tryd.func91 (by kernel_rfl) rfl #[.int .u32 a, .int .i64 5] (by rfl) rfl rfl (by simp only [List.map_toArray, List.map_cons, List.map_nil]; rfl) ?_
            with_reducible refine (rot5_calls _ _).mono ?_
            rintro e w8 ⟨rfl, rfl⟩
            refine ⟨_, rfl, ?_⟩
            refine hK.out _ _ ⟨(hqv ▸ (HT.out.at B7.out).cell (ar_d4 t hk)), (word_at' HW7.out HWL7.out (t % 16) (Nat.mod_lt _ (by decide)) hwv)⟩ (fun hHeld => ?_)
            clear hK K
            refine norm_ (a' := ?_) ?_ ?_
            rotate_left
            · show Act.put _ (some 77) _ = _
              simp only [Act.put, List.setIfInBounds_toArray, List.set_cons_zero, List.set_cons_succ, i64_w, i32_w]
              rfl
            refine one_ (i := 7) (N := some 83) #[true, true, true, true, true, true, true, true, false, true, false, true, true, true, true, false, true, true, true, true, false, false] rfl rfl (by kernel_rfl) (by decide) (fun K hK => ?_)
            refine goes_ Tryd.func92 (by kernel_rfl) rfl #[.int .i64 (wrap64 ((t : Int) / 20)), .int .u32 b, .int .u32 c', .int .u32 d] (by rfl) rfl rfl (by simp only [List.map_toArray, List.map_cons, List.map_nil]; rfl) ?_
            with_reducible refine (mix_calls _ _ _ _ _).mono ?_
            rintro e w9 ⟨rfl, rfl⟩
            refine ⟨_, rfl, ?_⟩
            refine hK.out _ _ ⟨(hqv ▸ (HT.out.at B7.out).cell (ar_d4 t hk)), (word_at' HW7.out HWL7.out (t % 16) (Nat.mod_lt _ (by decide)) hwv)⟩ (fun hHeld => ?_)
            clear hK K
            refine norm_ (a' := ?_) ?_ ?_
            rotate_left
            · show Act.put _ (some 83) _ = _
              simp only [Act.put, List.setIfInBounds_toArray, List.set_cons_zero, List.set_cons_succ, i64_w, i32_w]
              rfl
            refine pure_ (i := 8) (N := some 84) (v := ?_) (a' := ?_) #[true, true, true, true, true, true, true, true, true, true, false, true, true, true, true, false, true, true, true, true, false, false] rfl rfl (by kernel_rfl) (fun _ _ _ h => h) (Or.inl ⟨by rfl, ?_⟩) ?_ ?_
            rotate_left
            · intro w'
              go_simp
              with_reducible rfl
            rotate_left
            · simp only [Act.put, List.setIfInBounds_toArray, List.set_cons_zero, List.set_cons_succ, i64_w, i32_w]
              rfl
            refine pure_ (i := 10) (N := some 86) (v := ?_) (a' := ?_) #[true, true, true, true, true, true, true, true, true, true, true, true, true, true, true, false, true, true, true, true, false, false] rfl rfl (by kernel_rfl) (fun _ _ _ h => h) (Or.inl ⟨by rfl, ?_⟩) ?_ ?_
            rotate_left
            · intro w'
              go_simp
              with_reducible rfl
            rotate_left
            · simp only [Act.put, List.setIfInBounds_toArray, List.set_cons_zero, List.set_cons_succ, i64_w, i32_w]
              rfl
            refine pure_ (i := 15) (N := some 91) (v := ?_) (a' := ?_) #[true, true, true, true, true, true, true, true, true, true, true, true, true, true, true, true, true, true, true, true, false, false] rfl rfl (by kernel_rfl) (fun _ _ _ h => h) (Or.inl ⟨by rfl, ?_⟩) ?_ ?_
            rotate_left
            · intro w'
              go_simp
              with_reducible rfl
            rotate_left
            · simp only [Act.put, List.setIfInBounds_toArray, List.set_cons_zero, List.set_cons_succ, i64_w, i32_w]
              rfl
            refine pure_ (i := 20) (N := some 96) (v := ?_) (a' := ?_) #[true, true, true, true, true, true, true, true, true, true, true, true, true, true, true, true, true, true, true, true, true, false] rfl rfl (by kernel_rfl) (fun _ _ _ h => h) (Or.inl ⟨by rfl, ?_⟩) ?_ ?_
            rotate_left
            · intro w'
              go_simp
              with_reducible rfl
            rotate_left
            · simp only [Act.put, List.setIfInBounds_toArray, List.set_cons_zero, List.set_cons_succ, i64_w, i32_w]
              rfl
            refine pure_ (i := 21) (N := some 14) (v := ?_) (a' := ?_) #[true, true, true, true, true, true, true, true, true, true, true, true, true, true, true, true, true, true, true, true, true, true] rfl rfl (by kernel_rfl) (fun _ _ _ h => h) (Or.inl ⟨by rfl, ?_⟩) ?_ ?_
            rotate_left
            · intro w'
              go_simp
              with_reducible rfl
            rotate_left
            · simp only [Act.put, List.setIfInBounds_toArray, List.set_cons_zero, List.set_cons_succ, i64_w, i32_w]
              rfl
            refine done_ (by kernel_rfl) ?_
            clear hHeld
            clear em0 ep0 eq0 en0 ed ewd edp edq edn
            go_wp2_with fail
            refine (rot30_calls _ _).mono ?_
            rintro e_ w10 ⟨rfl, rfl⟩
            go_wp2_with fail
            go_roundg go
            case measure => have := HK.out; omega
            case rel => exact ⟨t + 1, _, _, _, _, _, (ws.set (t % 16) (rot 1 (Go.bits .xor .u32 (Go.bits .xor .u32 (Go.bits .xor .u32 x1 x2) x3) x4))), by go_num, rfl, rfl, rfl, rfl, rfl, ⟨by have := HK.out; omega⟩, ⟨by rw [rnd, HST.out, stp, HWN.out, ← hqv, hwv]; simp only [IntKind.wrap_u32, ar_wd t hk]⟩, HA27, HA47, HW7, B7⟩
          · have h161 : (16 ≤ (t : Int)) = False := eq_false (by omega)
            have h162 : decide (16 ≤ (t : Int)) = false := decide_eq_false (by omega)
            have HWN := Aside0.mk (show wnext t ws = ws by unfold wnext; rw [if_neg h16])
            go_wp2_with fail
            have em0 : Int.tmod (t : Int) 16 = (t : Int) % 16 := ar_m0 t
            have ep0 : (0 ≤ (t : Int) % 16) = True := ar_p0 t
            have eq0 : ((t : Int) % 16 < 16) = True := ar_q0 t
            have en0 : ((t : Int) % 16).toNat = t % 16 := ar_n0 t
            have ed := ar_d t
            have ewd := ar_wd t hk
            have edp := ar_dp t
            have edq := ar_dq t hk
            have edn := ar_dn t
            obtain ⟨qv, hqv⟩ : ∃ v : Int, v = qua (t / 20) := ⟨_, rfl⟩
            obtain ⟨wv, hwv⟩ : ∃ v : Int, ws.getD (t % 16) 0 = v := ⟨_, rfl⟩
            have HA27 := Aside0.mk (blk_drew HA2.out)
            have HA47 := Aside0.mk (blk_drew HA4.out)
            have HW7 := Aside0.mk (blk_drew HW.out)
            have B7 := Aside0.mk (below_drew BB.out)
            have HWL7 := Aside0.mk (show (ws).length = 16 by exact HWL.out)
            clear HA2 HA4 HW BB
            refine start_ (n := 22) (S := fun w' => w'.cell? ⟨1, t / 20, none⟩ = some (.int .u32 qv) ∧ w'.cell? ⟨g13, t % 16, none⟩ = some (.int .u32 wv)) (ds := []) #[false, false, false, false, false, false, false, false, false, false, false, false, false, false, false, false, false, false, false, false, false, false] (by kernel_rfl) rfl rfl ⟨(hqv ▸ (HT.out.at B7.out).cell (ar_d4 t hk)), (word_at' HW7.out HWL7.out (t % 16) (Nat.mod_lt _ (by decide)) hwv)⟩ (fun hHeld => ?_)
            generalize World.drew wr = w7 at HA27 HA47 HW7 B7 hHeld ⊢
            refine pure_ (i := 0) (N := some 76) (v := ?_) (a' := ?_) #[true, false, false, false, false, false, false, false, false, false, false, false, false, false, false, false, false, false, false, false, false, false] rfl rfl (by kernel_rfl) (fun _ _ _ h => h) (Or.inl ⟨by rfl, ?_⟩) ?_ ?_
            rotate_left
            · intro w'
              go_simp
              with_reducible rfl
            rotate_left
            · simp only [Act.put, List.setIfInBounds_toArray, List.set_cons_zero, List.set_cons_succ, i64_w, i32_w]
              rfl
            refine pure_ (i := 2) (N := some 78) (v := ?_) (a' := ?_) #[true, false, true, false, false, false, false, false, false, false, false, false, false, false, false, false, false, false, false, false, false, false] rfl rfl (by kernel_rfl) (fun _ _ _ h => h) (Or.inl ⟨by rfl, ?_⟩) ?_ ?_
            rotate_left
            · intro w'
              go_simp
              with_reducible rfl
            rotate_left
            · simp only [Act.put, List.setIfInBounds_toArray, List.set_cons_zero, List.set_cons_succ, i64_w, i32_w]
              rfl
            refine pure_ (i := 3) (N := some 79) (v := ?_) (a' := ?_) #[true, false, true, true, false, false, false, false, false, false, false, false, false, false, false, false, false, false, false, false, false, false] rfl rfl (by kernel_rfl) (fun _ _ _ h => h) (Or.inl ⟨by rfl, ?_⟩) ?_ ?_
            rotate_left
            · intro w'
              go_simp
              with_reducible rfl
            rotate_left
            · simp only [Act.put, List.setIfInBounds_toArray, List.set_cons_zero, List.set_cons_succ, i64_w, i32_w]
              rfl
            refine pure_ (i := 4) (N := some 80) (v := ?_) (a' := ?_) #[true, false, true, true, true, false, false, false, false, false, false, false, false, false, false, false, false, false, false, false, false, false] rfl rfl (by kernel_rfl) (fun _ _ _ h => h) (Or.inl ⟨by rfl, ?_⟩) ?_ ?_
            rotate_left
            · intro w'
              go_simp
              with_reducible rfl
            rotate_left
            · simp only [Act.put, List.setIfInBounds_toArray, List.set_cons_zero, List.set_cons_succ, i64_w, i32_w]
              rfl
            refine pure_ (i := 5) (N := some 81) (v := ?_) (a' := ?_) #[true, false, true, true, true, true, false, false, false, false, false, false, false, false, false, false, false, false, false, false, false, false] rfl rfl (by kernel_rfl) (fun _ _ _ h => h) (Or.inl ⟨by rfl, ?_⟩) ?_ ?_
            rotate_left
            · intro w'
              go_simp
              with_reducible rfl
            rotate_left
            · simp only [Act.put, List.setIfInBounds_toArray, List.set_cons_zero, List.set_cons_succ, i64_w, i32_w]
              rfl
            refine pure_ (i := 6) (N := some 82) (v := ?_) (a' := ?_) #[true, false, true, true, true, true, true, false, false, false, false, false, false, false, false, false, false, false, false, false, false, false] rfl rfl (by kernel_rfl) (fun _ _ _ h => h) (Or.inl ⟨by rfl, ?_⟩) ?_ ?_
            rotate_left
            · intro w'
              go_simp
              with_reducible rfl
            rotate_left
            · simp only [Act.put, List.setIfInBounds_toArray, List.set_cons_zero, List.set_cons_succ, i64_w, i32_w]
              rfl
            refine pure_ (i := 9) (N := some 85) (v := ?_) (a' := ?_) #[true, false, true, true, true, true, true, false, false, true, false, false, false, false, false, false, false, false, false, false, false, false] rfl rfl (by kernel_rfl) (fun _ _ _ h => h) (Or.inl ⟨by rfl, ?_⟩) ?_ ?_
            rotate_left
            · intro w'
              go_simp
              with_reducible rfl
            rotate_left
            · simp only [Act.put, List.setIfInBounds_toArray, List.set_cons_zero, List.set_cons_succ, i64_w, i32_w]
              rfl
            refine pure_ (i := 11) (N := some 87) (v := ?_) (a' := ?_) #[true, false, true, true, true, true, true, false, false, true, false, true, false, false, false, false, false, false, false, false, false, false] rfl rfl (by kernel_rfl) (fun _ _ _ h => h) (Or.inl ⟨by rfl, ?_⟩) ?_ ?_
            rotate_left
            · intro w'
              go_simp
              with_reducible rfl
            rotate_left
            · simp only [Act.put, List.setIfInBounds_toArray, List.set_cons_zero, List.set_cons_succ, i64_w, i32_w]
              rfl
            refine pure_ (i := 12) (N := some 88) (v := ?_) (a' := ?_) #[true, false, true, true, true, true, true, false, false, true, false, true, true, false, false, false, false, false, false, false, false, false] rfl rfl (by kernel_rfl) (fun _ _ _ h => h) (Or.inl ⟨by rfl, ?_⟩) ?_ ?_
            rotate_left
            · intro w'
              go_simp
              with_reducible rfl
            rotate_left
            · simp only [Act.put, List.setIfInBounds_toArray, List.set_cons_zero, List.set_cons_succ, i64_w, i32_w]
              rfl
            refine pure_ (i := 13) (N := some 89) (v := ?_) (a' := ?_) #[true, false, true, true, true, true, true, false, false, true, false, true, true, true, false, false, false, false, false, false, false, false] rfl rfl (by kernel_rfl) (fun _ _ _ h => h) (Or.inl ⟨by rfl, ?_⟩) ?_ ?_
            rotate_left
            · intro w'
              go_simp
              with_reducible rfl
            rotate_left
            · simp only [Act.put, List.setIfInBounds_toArray, List.set_cons_zero, List.set_cons_succ, i64_w, i32_w]
              rfl
            refine pure_ (i := 16) (N := some 92) (v := ?_) (a' := ?_) #[true, false, true, true, true, true, true, false, false, true, false, true, true, true, false, false, true, false, false, false, false, false] rfl rfl (by kernel_rfl) (fun _ _ _ h => h) (Or.inl ⟨by rfl, ?_⟩) ?_ ?_
            rotate_left
            · intro w'
              go_simp
              with_reducible rfl
            rotate_left
            · simp only [Act.put, List.setIfInBounds_toArray, List.set_cons_zero, List.set_cons_succ, i64_w, i32_w]
              rfl
            refine pure_ (i := 17) (N := some 93) (v := ?_) (a' := ?_) #[true, false, true, true, true, true, true, false, false, true, false, true, true, true, false, false, true, true, false, false, false, false] rfl rfl (by kernel_rfl) (fun _ _ _ h => h) (Or.inl ⟨by rfl, ?_⟩) ?_ ?_
            rotate_left
            · intro w'
              go_simp
              with_reducible rfl
            rotate_left
            · simp only [Act.put, List.setIfInBounds_toArray, List.set_cons_zero, List.set_cons_succ, i64_w, i32_w]
              rfl
            refine pure_ (i := 18) (N := some 94) (v := ?_) (a' := ?_) #[true, false, true, true, true, true, true, false, false, true, false, true, true, true, false, false, true, true, true, false, false, false] rfl rfl (by kernel_rfl) (fun _ _ _ h => h) (Or.inl ⟨by rfl, ?_⟩) ?_ ?_
            rotate_left
            · intro w'
              go_simp
              with_reducible rfl
            rotate_left
            · simp only [Act.put, List.setIfInBounds_toArray, List.set_cons_zero, List.set_cons_succ, i64_w, i32_w]
              rfl
            refine take_ (i := 14) (N := some 90) (v := ?_) (a' := ?_) #[true, false, true, true, true, true, true, false, false, true, false, true, true, true, true, false, true, true, true, false, false, false] rfl rfl (by kernel_rfl) (fun _ _ _ h => h) (Or.inl ⟨by rfl, ?_⟩) hHeld ?_ ?_
            rotate_left
            · rintro w' ⟨s0, s1⟩
              go_simp
              with_reducible rfl
            rotate_left
            · simp only [Act.put, List.setIfInBounds_toArray, List.set_cons_zero, List.set_cons_succ, i64_w, i32_w]
              rfl
            refine take_ (i := 19) (N := some 95) (v := ?_) (a' := ?_) #[true, false, true, true, true, true, true, false, false, true, false, true, true, true, true, false, true, true, true, true, false, false] rfl rfl (by kernel_rfl) (fun _ _ _ h => h) (Or.inl ⟨by rfl, ?_⟩) hHeld ?_ ?_
            rotate_left
            · rintro w' ⟨s0, s1⟩
              go_simp
              with_reducible rfl
            rotate_left
            · simp only [Act.put, List.setIfInBounds_toArray, List.set_cons_zero, List.set_cons_succ, i64_w, i32_w]
              rfl
            refine one_ (i := 1) (N := some 77) #[true, true, true, true, true, true, true, false, false, true, false, true, true, true, true, false, true, true, true, true, false, false] rfl rfl (by kernel_rfl) (by decide) (fun K hK => ?_)
            refine goes_ Tryd.func91 (by kernel_rfl) rfl #[.int .u32 a, .int .i64 5] (by rfl) rfl rfl (by simp only [List.map_toArray, List.map_cons, List.map_nil]; rfl) ?_
            with_reducible refine (rot5_calls _ _).mono ?_
            rintro e w8 ⟨rfl, rfl⟩
            refine ⟨_, rfl, ?_⟩
            refine hK.out _ _ ⟨(hqv ▸ (HT.out.at B7.out).cell (ar_d4 t hk)), (word_at' HW7.out HWL7.out (t % 16) (Nat.mod_lt _ (by decide)) hwv)⟩ (fun hHeld => ?_)
            clear hK K
            refine norm_ (a' := ?_) ?_ ?_
            rotate_left
            · show Act.put _ (some 77) _ = _
              simp only [Act.put, List.setIfInBounds_toArray, List.set_cons_zero, List.set_cons_succ, i64_w, i32_w]
              rfl
            refine one_ (i := 7) (N := some 83) #[true, true, true, true, true, true, true, true, false, true, false, true, true, true, true, false, true, true, true, true, false, false] rfl rfl (by kernel_rfl) (by decide) (fun K hK => ?_)
            refine goes_ Tryd.func92 (by kernel_rfl) rfl #[.int .i64 (wrap64 ((t : Int) / 20)), .int .u32 b, .int .u32 c', .int .u32 d] (by rfl) rfl rfl (by simp only [List.map_toArray, List.map_cons, List.map_nil]; rfl) ?_
            with_reducible refine (mix_calls _ _ _ _ _).mono ?_
            rintro e w9 ⟨rfl, rfl⟩
            refine ⟨_, rfl, ?_⟩
            refine hK.out _ _ ⟨(hqv ▸ (HT.out.at B7.out).cell (ar_d4 t hk)), (word_at' HW7.out HWL7.out (t % 16) (Nat.mod_lt _ (by decide)) hwv)⟩ (fun hHeld => ?_)
            clear hK K
            refine norm_ (a' := ?_) ?_ ?_
            rotate_left
            · show Act.put _ (some 83) _ = _
              simp only [Act.put, List.setIfInBounds_toArray, List.set_cons_zero, List.set_cons_succ, i64_w, i32_w]
              rfl
            refine pure_ (i := 8) (N := some 84) (v := ?_) (a' := ?_) #[true, true, true, true, true, true, true, true, true, true, false, true, true, true, true, false, true, true, true, true, false, false] rfl rfl (by kernel_rfl) (fun _ _ _ h => h) (Or.inl ⟨by rfl, ?_⟩) ?_ ?_
            rotate_left
            · intro w'
              go_simp
              with_reducible rfl
            rotate_left
            · simp only [Act.put, List.setIfInBounds_toArray, List.set_cons_zero, List.set_cons_succ, i64_w, i32_w]
              rfl
            refine pure_ (i := 10) (N := some 86) (v := ?_) (a' := ?_) #[true, true, true, true, true, true, true, true, true, true, true, true, true, true, true, false, true, true, true, true, false, false] rfl rfl (by kernel_rfl) (fun _ _ _ h => h) (Or.inl ⟨by rfl, ?_⟩) ?_ ?_
            rotate_left
            · intro w'
              go_simp
              with_reducible rfl
            rotate_left
            · simp only [Act.put, List.setIfInBounds_toArray, List.set_cons_zero, List.set_cons_succ, i64_w, i32_w]
              rfl
            refine pure_ (i := 15) (N := some 91) (v := ?_) (a' := ?_) #[true, true, true, true, true, true, true, true, true, true, true, true, true, true, true, true, true, true, true, true, false, false] rfl rfl (by kernel_rfl) (fun _ _ _ h => h) (Or.inl ⟨by rfl, ?_⟩) ?_ ?_
            rotate_left
            · intro w'
              go_simp
              with_reducible rfl
            rotate_left
            · simp only [Act.put, List.setIfInBounds_toArray, List.set_cons_zero, List.set_cons_succ, i64_w, i32_w]
              rfl
            refine pure_ (i := 20) (N := some 96) (v := ?_) (a' := ?_) #[true, true, true, true, true, true, true, true, true, true, true, true, true, true, true, true, true, true, true, true, true, false] rfl rfl (by kernel_rfl) (fun _ _ _ h => h) (Or.inl ⟨by rfl, ?_⟩) ?_ ?_
            rotate_left
            · intro w'
              go_simp
              with_reducible rfl
            rotate_left
            · simp only [Act.put, List.setIfInBounds_toArray, List.set_cons_zero, List.set_cons_succ, i64_w, i32_w]
              rfl
            refine pure_ (i := 21) (N := some 14) (v := ?_) (a' := ?_) #[true, true, true, true, true, true, true, true, true, true, true, true, true, true, true, true, true, true, true, true, true, true] rfl rfl (by kernel_rfl) (fun _ _ _ h => h) (Or.inl ⟨by rfl, ?_⟩) ?_ ?_
            rotate_left
            · intro w'
              go_simp
              with_reducible rfl
            rotate_left
            · simp only [Act.put, List.setIfInBounds_toArray, List.set_cons_zero, List.set_cons_succ, i64_w, i32_w]
              rfl
            refine done_ (by kernel_rfl) ?_
            clear hHeld
            clear em0 ep0 eq0 en0 ed ewd edp edq edn
            go_wp2_with fail
            refine (rot30_calls _ _).mono ?_
            rintro e_ w10 ⟨rfl, rfl⟩
            go_wp2_with fail
            go_roundg go
            case measure => have := HK.out; omega
            case rel => exact ⟨t + 1, _, _, _, _, _, ws, by go_num, rfl, rfl, rfl, rfl, rfl, ⟨by have := HK.out; omega⟩, ⟨by rw [rnd, HST.out, stp, HWN.out, ← hqv, hwv]; simp only [IntKind.wrap_u32, ar_wd t hk]⟩, HA27, HA47, HW7, B7⟩
        · obtain rfl : t = 80 := by have := HK.out; omega
          simp only [show ((80 : Nat) : Int) = 80 from rfl]
          have k0 : wr.cell? ⟨g1, 0, none⟩ = some (.int .u32 h0) := (blk_cell HA2.out 0).trans rfl; have k1 : wr.cell? ⟨g1, 1, none⟩ = some (.int .u32 h1) := (blk_cell HA2.out 1).trans rfl; have k2 : wr.cell? ⟨g1, 2, none⟩ = some (.int .u32 h2) := (blk_cell HA2.out 2).trans rfl; have k3 : wr.cell? ⟨g1, 3, none⟩ = some (.int .u32 h3) := (blk_cell HA2.out 3).trans rfl; have k4 : wr.cell? ⟨g1, 4, none⟩ = some (.int .u32 h4) := (blk_cell HA2.out 4).trans rfl
          go_wp2_with (first | ((with_reducible refine gate_store (t := 42) (p := _) rfl ?_); refine storeN_event (T := 42) rfl rfl rfl rfl rfl (storeVar_blk HA4.out 42 0 [.int .u32 ((h0 + a) % 4294967296), .int .u32 ((h1 + b) % 4294967296), .int .u32 ((h2 + c') % 4294967296), .int .u32 ((h3 + d) % 4294967296), .int .u32 ((h4 + e) % 4294967296)] (by kernel_rfl) rfl (by simp)) ?_; have HA10 := Aside0.mk (show (World.setCells wr g6 0 [.int .u32 ((h0 + a) % 4294967296), .int .u32 ((h1 + b) % 4294967296), .int .u32 ((h2 + c') % 4294967296), .int .u32 ((h3 + d) % 4294967296), .int .u32 ((h4 + e) % 4294967296)]).heap[g6]? = some (.cells #[.int .u32 ((h0 + a) % 4294967296), .int .u32 ((h1 + b) % 4294967296), .int .u32 ((h2 + c') % 4294967296), .int .u32 ((h3 + d) % 4294967296), .int .u32 ((h4 + e) % 4294967296)] 42 (0, 0)) from blk_setCells [] [.int .u32 ((h0 + a) % 4294967296), .int .u32 ((h1 + b) % 4294967296), .int .u32 ((h2 + c') % 4294967296), .int .u32 ((h3 + d) % 4294967296), .int .u32 ((h4 + e) % 4294967296)] [.int .u32 0, .int .u32 0, .int .u32 0, .int .u32 0, .int .u32 0] [] wr rfl HA4.out); have B10 := Aside0.mk (below_setCells G9 [.int .u32 ((h0 + a) % 4294967296), .int .u32 ((h1 + b) % 4294967296), .int .u32 ((h2 + c') % 4294967296), .int .u32 ((h3 + d) % 4294967296), .int .u32 ((h4 + e) % 4294967296)] 0 wr BB.out)))
          have hfin : doF h0 h1 h2 h3 h4 l = ((h0 + a) % 4294967296, (h1 + b) % 4294967296, (h2 + c') % 4294967296, (h3 + d) % 4294967296, (h4 + e) % 4294967296) := by unfold doF; rw [← HE0.out.1, HST.out]
          rw [hfin]
          exact bodyPost_ret (results_cell_row rfl _ _ g6 42 #[.int .u32 ((h0 + a) % 4294967296), .int .u32 ((h1 + b) % 4294967296), .int .u32 ((h2 + c') % 4294967296), .int .u32 ((h3 + d) % 4294967296), .int .u32 ((h4 + e) % 4294967296)] (0, 0) _ rfl HA10.out Tryd.underlying42 rfl (by kernel_rfl)) rfl ⟨rfl, B10.out⟩
end Go.Proofs.YtbldecdipicddaaDoor.Hand
