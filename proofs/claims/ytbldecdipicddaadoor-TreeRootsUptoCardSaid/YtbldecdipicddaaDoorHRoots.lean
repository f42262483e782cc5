/- The walks of the law TreeRoots. Written by wip/s1/mkroots.py. -/
import Derived.Test.YtbldecdipicddaaDoorHGreat
set_option linter.unusedSimpArgs false
set_option linter.unusedVariables false
namespace Go.Proofs.YtbldecdipicddaaDoor.Hand
open Go Go.RowKit Go.Proofs.YtbldecdipicddaaDoorW.PrintWords Go.Proofs.YtbldecdipicddaaDoorW.PrintLast
set_option maxHeartbeats 3200000 in
set_option maxRecDepth 100000 in
theorem roots_g (A : Option Addr) (c : Nat) (ll : List (List Int)) (B : Option Addr) (M cb : Nat) (n i : Int) (w : World) (hr : Kd.C (Kd.slice 5 (Kd.int .u8)) w A ll.length ll) (hlc : ll.length ≤ c) (hg : great ll = true) (hw : True) :
    Calls Tryd.prog 18 #[.slice A ll.length c, .slice B M cb, .int .i64 n, .int .i64 i] w fun e w' => e = .returned (.bool true) ∧ Below w.heap.size w w' := by
  have Hhr := Aside0.mk hr
  have Hhlc := Aside0.mk hlc
  have Hhg := Aside0.mk hg
  clear hr hlc hg hw 
  go_enter Tryd.func18, Tryd.ntmps18
  go_wp2_with fail
  refine (great_calls A c ll _ Hhr.out Hhlc.out).mono ?_
  rintro e w' ⟨rfl, hw_⟩
  obtain rfl : w = w' := hw_.symm
  rw [Hhg.out]
  go_wp2_with fail
  go_ret
  exact ⟨rfl, Below.refl _ _⟩
set_option maxHeartbeats 3200000 in
set_option maxRecDepth 100000 in
theorem roots_b (A : Option Addr) (c : Nat) (ll : List (List Int)) (B : Option Addr) (M cb : Nat) (n i : Int) (w : World) (hr : Kd.C (Kd.slice 5 (Kd.int .u8)) w A ll.length ll) (hlc : ll.length ≤ c) (hg : great ll = false) (hw : 600 < M ∧ M ≤ 10000) :
    Calls Tryd.prog 18 #[.slice A ll.length c, .slice B M cb, .int .i64 n, .int .i64 i] w fun e w' => e = .returned (.bool true) ∧ Below w.heap.size w w' := by
  have Hhr := Aside0.mk hr
  have Hhlc := Aside0.mk hlc
  have Hhg := Aside0.mk hg
  have f0a : ((600 : Int) < (M : Int)) = True := eq_true (by omega)
  have f0b : ((M : Int) ≤ (600 : Int)) = False := eq_false (by omega)
  have f1a : ((10000 : Int) < (M : Int)) = False := eq_false (by omega)
  have f1b : ((M : Int) ≤ (10000 : Int)) = True := eq_true (by omega)
  clear hr hlc hg hw 
  go_enter Tryd.func18, Tryd.ntmps18
  go_wp2_with fail
  refine (great_calls A c ll _ Hhr.out Hhlc.out).mono ?_
  rintro e w' ⟨rfl, hw_⟩
  obtain rfl : w = w' := hw_.symm
  rw [Hhg.out]
  go_wp2_with fail
  go_ret
  exact ⟨rfl, Below.refl _ _⟩
set_option maxHeartbeats 3200000 in
set_option maxRecDepth 100000 in
theorem roots_c (A : Option Addr) (c : Nat) (ll : List (List Int)) (B : Option Addr) (M cb : Nat) (n i : Int) (w : World) (hr : Kd.C (Kd.slice 5 (Kd.int .u8)) w A ll.length ll) (hlc : ll.length ≤ c) (hg : great ll = false) (hw : 10100 < M) :
    Calls Tryd.prog 18 #[.slice A ll.length c, .slice B M cb, .int .i64 n, .int .i64 i] w fun e w' => e = .returned (.bool true) ∧ Below w.heap.size w w' := by
  have Hhr := Aside0.mk hr
  have Hhlc := Aside0.mk hlc
  have Hhg := Aside0.mk hg
  have f0a : ((600 : Int) < (M : Int)) = True := eq_true (by omega)
  have f0b : ((M : Int) ≤ (600 : Int)) = False := eq_false (by omega)
  have f1a : ((10000 : Int) < (M : Int)) = True := eq_true (by omega)
  have f1b : ((M : Int) ≤ (10000 : Int)) = False := eq_false (by omega)
  have f2a : ((10100 : Int) < (M : Int)) = True := eq_true (by omega)
  have f2b : ((M : Int) ≤ (10100 : Int)) = False := eq_false (by omega)
  clear hr hlc hg hw 
  go_enter Tryd.func18, Tryd.ntmps18
  go_wp2_with fail
  refine (great_calls A c ll _ Hhr.out Hhlc.out).mono ?_
  rintro e w' ⟨rfl, hw_⟩
  obtain rfl : w = w' := hw_.symm
  rw [Hhg.out]
  go_wp2_with fail
  go_ret
  exact ⟨rfl, Below.refl _ _⟩
set_option maxHeartbeats 3200000 in
set_option maxRecDepth 100000 in
theorem roots_short (A : Option Addr) (c : Nat) (ll : List (List Int)) (B : Option Addr) (M cb : Nat) (n i : Int) (w : World) (hr : Kd.C (Kd.slice 5 (Kd.int .u8)) w A ll.length ll) (hlc : ll.length ≤ c) (hg : great ll = false) (hw : M ≤ 600) (hT : TabQ w) (hl : ll.length ≤ 650) (ht : tot ll ll.length ≤ 1000000000) (x y : Dg) (eb er ep m es : Int) (ps : List Dg) (hp : ps.length ≤ 1000000)
    (h1 : ∀ W : World, TabQ W → Below w.heap.size w W → Calls Tryd.prog 39 #[.slice B M cb] W fun e w' => e = .returned (.tuple #[.agg #[.int .u8 (x 0), .int .u8 (x 1), .int .u8 (x 2), .int .u8 (x 3), .int .u8 (x 4), .int .u8 (x 5), .int .u8 (x 6), .int .u8 (x 7), .int .u8 (x 8), .int .u8 (x 9), .int .u8 (x 10), .int .u8 (x 11), .int .u8 (x 12), .int .u8 (x 13), .int .u8 (x 14), .int .u8 (x 15), .int .u8 (x 16), .int .u8 (x 17), .int .u8 (x 18), .int .u8 (x 19)], .int .i64 eb]) ∧ Below W.heap.size W w') (h2 : ∀ W : World, TabQ W → Below w.heap.size w W → Calls Tryd.prog 60 #[.slice B M cb] W fun e w' => e = .returned (.tuple #[.agg #[.int .u8 (x 0), .int .u8 (x 1), .int .u8 (x 2), .int .u8 (x 3), .int .u8 (x 4), .int .u8 (x 5), .int .u8 (x 6), .int .u8 (x 7), .int .u8 (x 8), .int .u8 (x 9), .int .u8 (x 10), .int .u8 (x 11), .int .u8 (x 12), .int .u8 (x 13), .int .u8 (x 14), .int .u8 (x 15), .int .u8 (x 16), .int .u8 (x 17), .int .u8 (x 18), .int .u8 (x 19)], .int .i64 eb]) ∧ Below W.heap.size W w') (h3 : ∀ W : World, TabQ W → Below w.heap.size w W → Calls Tryd.prog 35 #[.slice A ll.length c] W fun e w' => e = .returned (.tuple #[.agg #[.int .u8 (y 0), .int .u8 (y 1), .int .u8 (y 2), .int .u8 (y 3), .int .u8 (y 4), .int .u8 (y 5), .int .u8 (y 6), .int .u8 (y 7), .int .u8 (y 8), .int .u8 (y 9), .int .u8 (y 10), .int .u8 (y 11), .int .u8 (y 12), .int .u8 (y 13), .int .u8 (y 14), .int .u8 (y 15), .int .u8 (y 16), .int .u8 (y 17), .int .u8 (y 18), .int .u8 (y 19)], .int .i64 er]) ∧ Below W.heap.size W w') (h4 : ∀ W : World, TabQ W → Below w.heap.size w W → Calls Tryd.prog 61 #[.slice A ll.length c] W fun e w' => e = .returned (.tuple #[.agg #[.int .u8 (y 0), .int .u8 (y 1), .int .u8 (y 2), .int .u8 (y 3), .int .u8 (y 4), .int .u8 (y 5), .int .u8 (y 6), .int .u8 (y 7), .int .u8 (y 8), .int .u8 (y 9), .int .u8 (y 10), .int .u8 (y 11), .int .u8 (y 12), .int .u8 (y 13), .int .u8 (y 14), .int .u8 (y 15), .int .u8 (y 16), .int .u8 (y 17), .int .u8 (y 18), .int .u8 (y 19)], .int .i64 er]) ∧ Below W.heap.size W w') (h5 : ∀ W : World, TabQ W → Below w.heap.size w W → Calls Tryd.prog 36 #[.slice A ll.length c, .int .i64 i] W fun e w' => ∃ v0_ : Value, e = .returned (.tuple #[v0_, .int .i64 ep]) ∧ Kd.R kdg 23 w' W.heap.size (fun _ => True) v0_ ps ∧ Below W.heap.size W w') (h6 : ∀ W : World, TabQ W → Below w.heap.size w W → Calls Tryd.prog 62 #[.slice A ll.length c, .int .i64 i] W fun e w' => ∃ v0_ : Value, e = .returned (.tuple #[v0_, .int .i64 ep]) ∧ Kd.R kdg 23 w' W.heap.size (fun _ => True) v0_ ps ∧ Below W.heap.size W w') (h7 : ∀ W : World, TabQ W → Below w.heap.size w W → Calls Tryd.prog 37 #[.int .i64 n, .int .i64 i] W fun e w' => e = .returned (.tuple #[.int .i64 m, .int .i64 es]) ∧ Below W.heap.size W w') (h8 : ∀ W : World, TabQ W → Below w.heap.size w W → Calls Tryd.prog 63 #[.int .i64 n, .int .i64 i] W fun e w' => e = .returned (.tuple #[.int .i64 m, .int .i64 es]) ∧ Below W.heap.size W w') :
    Calls Tryd.prog 18 #[.slice A ll.length c, .slice B M cb, .int .i64 n, .int .i64 i] w fun e w' => e = .returned (.bool true) ∧ Below w.heap.size w w' := by
  have Hhr := Aside0.mk hr
  have Hhlc := Aside0.mk hlc
  have Hhg := Aside0.mk hg
  have HhT := Aside0.mk hT
  have Hhl := Aside0.mk hl
  have Hht := Aside0.mk ht
  have Hh1 := Aside0.mk h1
  have Hh2 := Aside0.mk h2
  have Hh3 := Aside0.mk h3
  have Hh4 := Aside0.mk h4
  have Hh5 := Aside0.mk h5
  have Hh6 := Aside0.mk h6
  have Hh7 := Aside0.mk h7
  have Hh8 := Aside0.mk h8
  have f0a : ((600 : Int) < (M : Int)) = False := eq_false (by omega)
  have f0b : ((M : Int) ≤ (600 : Int)) = True := eq_true (by omega)
  have f1a : ((10100 : Int) < (M : Int)) = False := eq_false (by omega)
  have f1b : ((M : Int) ≤ (10100 : Int)) = True := eq_true (by omega)
  have Hhp := Aside0.mk hp
  clear hr hlc hg hw hp hT hl ht h1 h2 h3 h4 h5 h6 h7 h8
  go_enter Tryd.func18, Tryd.ntmps18
  go_wp2_with fail
  refine (great_calls A c ll _ Hhr.out Hhlc.out).mono ?_
  rintro e w' ⟨rfl, hw_⟩
  obtain rfl : w = w' := hw_.symm
  rw [Hhg.out]
  have hqx := fun (k : Nat) (W : World) => eqA23 k W (x 0) (x 0) (x 1) (x 1) (x 2) (x 2) (x 3) (x 3) (x 4) (x 4) (x 5) (x 5) (x 6) (x 6) (x 7) (x 7) (x 8) (x 8) (x 9) (x 9) (x 10) (x 10) (x 11) (x 11) (x 12) (x 12) (x 13) (x 13) (x 14) (x 14) (x 15) (x 15) (x 16) (x 16) (x 17) (x 17) (x 18) (x 18) (x 19) (x 19)
  have hqy := fun (k : Nat) (W : World) => eqA23 k W (y 0) (y 0) (y 1) (y 1) (y 2) (y 2) (y 3) (y 3) (y 4) (y 4) (y 5) (y 5) (y 6) (y 6) (y 7) (y 7) (y 8) (y 8) (y 9) (y 9) (y 10) (y 10) (y 11) (y 11) (y 12) (y 12) (y 13) (y 13) (y 14) (y 14) (y 15) (y 15) (y 16) (y 16) (y 17) (y 17) (y 18) (y 18) (y 19) (y 19)
  simp only [beq_self_eq_true, Bool.and_self] at hqx hqy
  go_wp2_with fail
  go_loopg [9, 10] ll.length (fun q_ v1_ v2_ w1_ => ∃ (k : Nat), v2_ = .int .i64 (k : Int) ∧ Aside0 (k + q_ = ll.length) ∧ Aside0 (Kd.R (Kd.int .u8) 5 w1_ w.heap.size (fun _ => True) v1_ (cat ll k)) ∧ Aside0 (Below w.heap.size w w1_))
  case atStart => exact ⟨0, rfl, ⟨by omega⟩, ⟨Kd.R_nil _ _ _ _ _⟩, ⟨Below.refl _ _⟩⟩
  case round =>
    obtain ⟨k, rfl, HK, HO, BB⟩ := hrel
    by_cases hk : k < ll.length
    · obtain ⟨go, rfl⟩ : ∃ j, gk = j + 1 := ⟨gk - 1, by have := HK.out; omega⟩
      have hi1 : ((k : Int) < ((ll.length : Nat) : Int)) = True := eq_true (by omega)
      have hi2 : (k < ll.length) = True := eq_true hk
      have hi3 : (0 ≤ (k : Int)) = True := eq_true (by omega)
      have u1 : wrap64 ((k : Int) + 1) = ((k + 1 : Nat) : Int) := by have := Hhl.out; unfold wrap64; omega
      obtain ⟨i2, hi2'⟩ : ∃ x : Nat, x = k + 1 := ⟨_, rfl⟩
      rw [← hi2'] at u1
      have HI2 := Aside0.mk hi2'
      obtain ⟨ad, rfl, hx_⟩ : ∃ ad, A = some ad ∧ True := by obtain ⟨ad, e, _⟩ := Hhr.out.2.2 (by omega); exact ⟨ad, e, trivial⟩
      obtain ⟨Ai, ci, hcell, hle_, hC_⟩ := rows_get (Kd.C_below Hhr.out BB.out) k hk
      have hm := tot_mono ll (k + 1) (ll.length - (k + 1))
      rw [show k + 1 + (ll.length - (k + 1)) = ll.length by omega] at hm
      have ht1 : (cat ll k).length + (ll.getD k []).length ≤ 1000000000 := by have := Hht.out; rw [tot] at hm; rw [cat_length]; omega
      obtain ⟨x_, hx⟩ : ∃ x : List Int, x = ll.getD k [] := ⟨_, rfl⟩
      have HCT := Aside0.mk (show cat ll (k + 1) = cat ll k ++ x_ by rw [hx]; rfl)
      rw [← hx] at hcell hC_ ht1 hle_
      have HC := Aside0.mk hC_
      have HT1 := Aside0.mk ht1
      clear hx_ hm hx hC_ ht1 hk hi2' hle_
      go_wp2_with (first | ((with_reducible refine gate_builtin (b := .append) (xs := #[.tmp 52, .tmp 56]) rfl ?_); at_builtin; refine Kd.R_append_rows (Kd.int .u8) (w0 := w) w.heap.size rfl (.tmp 52) (.tmp 56) 26 5 (.int .u8 0) 1 rfl Tryd.underlying26 info5p rfl (by decide) (by omega) _ (cat ll k) x_ _ _ _ (fun _ => True) (fun _ => False) rfl rfl ?aO ?aR (fun _ _ h => h) (fun _ h => h.elim) ?aF ?aB ?aS ?aL ?_; (case aR => exact HC.out); (case aB => exact BB.out); (case aF => exact (fun _ _ => trivial)); (case aO => exact HO.out); (case aS => exact below_size BB.out); (case aL => have := HT1.out; omega); intro v4_ w4_ ho hb hg hat; have HO4 := Aside0.mk ho; have B4 := Aside0.mk hb; clear ho hb hg hat HO BB hcell))
      go_roundg go
      case measure => have := HK.out; omega
      case rel => exact ⟨i2, (by first | rfl | rw [u1]), ⟨by have := HK.out; have := HI2.out; omega⟩, ⟨by rw [HI2.out, HCT.out]; exact HO4.out⟩, B4⟩
    · have HKE := Aside0.mk (show k = ll.length by have := HK.out; omega)
      have hi1 : ((k : Int) < ((ll.length : Nat) : Int)) = False := eq_false (by omega)
      have hi2 : (k < ll.length) = False := eq_false hk
      clear hk
      obtain ⟨wf, rfl⟩ : ∃ x : World, x = wr := ⟨_, rfl⟩
      obtain ⟨ra, ca, rfl, hle_, hC_⟩ := Kd.R_reads HO.out
      rw [HKE.out] at hC_
      have hal : (cat ll k).length = tot ll ll.length := by rw [HKE.out, cat_length]
      obtain ⟨T, hT_⟩ : ∃ T, T = tot ll ll.length := ⟨_, rfl⟩
      rw [hal, ← hT_]
      rw [cat_length, ← hT_] at hC_
      have HTT := Aside0.mk hT_
      have RA := Aside0.mk hC_
      clear hC_ hle_ HO HK HKE hal hT_
      go_wp2_with fail
      refine (Hh1.out wf (HhT.out.at BB.out) BB.out).mono ?_
      rintro e w101 ⟨rfl, hb_⟩
      have B102 := Aside0.mk (below_step BB.out hb_)
      have B103 := Aside0.mk (hb_)
      clear hb_ BB
      go_wp2_with (first | ((with_reducible refine gate_dst (N := 11) rfl ?_); refine box_event ?hg (N := 11) ?hd (cs := #[.int .u8 0, .int .u8 0, .int .u8 0, .int .u8 0, .int .u8 0, .int .u8 0, .int .u8 0, .int .u8 0, .int .u8 0, .int .u8 0, .int .u8 0, .int .u8 0, .int .u8 0, .int .u8 0, .int .u8 0, .int .u8 0, .int .u8 0, .int .u8 0, .int .u8 0, .int .u8 0]) (t := 23) ?hr ?_; (case hd => rfl); (case hg => rfl); (case hr => first | (go_simp; done) | (go_simp; rfl)); intro g104 hgg104 w105 hhg104 hbg104; have H110 := Aside0.mk hhg104; have G106 : w.heap.size ≤ g104 := Nat.le_trans B102.out.size (Nat.le_of_eq hgg104.symm); have G107 : wf.heap.size ≤ g104 := Nat.le_trans B103.out.size (Nat.le_of_eq hgg104.symm); have B108 := Aside0.mk (below_step B102.out hbg104); have B109 := Aside0.mk (below_step B103.out hbg104); clear hgg104 hhg104 hbg104 B102 B103) | ((with_reducible refine gate_store (t := 23) (p := _) rfl ?_); refine storeN_event (T := 23) rfl rfl rfl rfl rfl (storeVar_blk H110.out 23 0 [.int .u8 (x 0), .int .u8 (x 1), .int .u8 (x 2), .int .u8 (x 3), .int .u8 (x 4), .int .u8 (x 5), .int .u8 (x 6), .int .u8 (x 7), .int .u8 (x 8), .int .u8 (x 9), .int .u8 (x 10), .int .u8 (x 11), .int .u8 (x 12), .int .u8 (x 13), .int .u8 (x 14), .int .u8 (x 15), .int .u8 (x 16), .int .u8 (x 17), .int .u8 (x 18), .int .u8 (x 19)] (by kernel_rfl) rfl (by simp)) ?_; have H112 := Aside0.mk (show (World.setCells w105 g104 0 [.int .u8 (x 0), .int .u8 (x 1), .int .u8 (x 2), .int .u8 (x 3), .int .u8 (x 4), .int .u8 (x 5), .int .u8 (x 6), .int .u8 (x 7), .int .u8 (x 8), .int .u8 (x 9), .int .u8 (x 10), .int .u8 (x 11), .int .u8 (x 12), .int .u8 (x 13), .int .u8 (x 14), .int .u8 (x 15), .int .u8 (x 16), .int .u8 (x 17), .int .u8 (x 18), .int .u8 (x 19)]).heap[g104]? = some (.cells #[.int .u8 (x 0), .int .u8 (x 1), .int .u8 (x 2), .int .u8 (x 3), .int .u8 (x 4), .int .u8 (x 5), .int .u8 (x 6), .int .u8 (x 7), .int .u8 (x 8), .int .u8 (x 9), .int .u8 (x 10), .int .u8 (x 11), .int .u8 (x 12), .int .u8 (x 13), .int .u8 (x 14), .int .u8 (x 15), .int .u8 (x 16), .int .u8 (x 17), .int .u8 (x 18), .int .u8 (x 19)] 23 (0, 0)) from blk_setCells [] [.int .u8 (x 0), .int .u8 (x 1), .int .u8 (x 2), .int .u8 (x 3), .int .u8 (x 4), .int .u8 (x 5), .int .u8 (x 6), .int .u8 (x 7), .int .u8 (x 8), .int .u8 (x 9), .int .u8 (x 10), .int .u8 (x 11), .int .u8 (x 12), .int .u8 (x 13), .int .u8 (x 14), .int .u8 (x 15), .int .u8 (x 16), .int .u8 (x 17), .int .u8 (x 18), .int .u8 (x 19)] [.int .u8 0, .int .u8 0, .int .u8 0, .int .u8 0, .int .u8 0, .int .u8 0, .int .u8 0, .int .u8 0, .int .u8 0, .int .u8 0, .int .u8 0, .int .u8 0, .int .u8 0, .int .u8 0, .int .u8 0, .int .u8 0, .int .u8 0, .int .u8 0, .int .u8 0, .int .u8 0] [] w105 rfl H110.out); have B113 := Aside0.mk (below_setCells G106 [.int .u8 (x 0), .int .u8 (x 1), .int .u8 (x 2), .int .u8 (x 3), .int .u8 (x 4), .int .u8 (x 5), .int .u8 (x 6), .int .u8 (x 7), .int .u8 (x 8), .int .u8 (x 9), .int .u8 (x 10), .int .u8 (x 11), .int .u8 (x 12), .int .u8 (x 13), .int .u8 (x 14), .int .u8 (x 15), .int .u8 (x 16), .int .u8 (x 17), .int .u8 (x 18), .int .u8 (x 19)] 0 w105 B108.out); have B114 := Aside0.mk (below_setCells G107 [.int .u8 (x 0), .int .u8 (x 1), .int .u8 (x 2), .int .u8 (x 3), .int .u8 (x 4), .int .u8 (x 5), .int .u8 (x 6), .int .u8 (x 7), .int .u8 (x 8), .int .u8 (x 9), .int .u8 (x 10), .int .u8 (x 11), .int .u8 (x 12), .int .u8 (x 13), .int .u8 (x 14), .int .u8 (x 15), .int .u8 (x 16), .int .u8 (x 17), .int .u8 (x 18), .int .u8 (x 19)] 0 w105 B109.out); clear H110 B108 B109; generalize World.setCells w105 g104 0 [.int .u8 (x 0), .int .u8 (x 1), .int .u8 (x 2), .int .u8 (x 3), .int .u8 (x 4), .int .u8 (x 5), .int .u8 (x 6), .int .u8 (x 7), .int .u8 (x 8), .int .u8 (x 9), .int .u8 (x 10), .int .u8 (x 11), .int .u8 (x 12), .int .u8 (x 13), .int .u8 (x 14), .int .u8 (x 15), .int .u8 (x 16), .int .u8 (x 17), .int .u8 (x 18), .int .u8 (x 19)] = w111 at H112 B113 B114 ⊢; generalize Value.tuple #[.agg #[.int .u8 (x 0), .int .u8 (x 1), .int .u8 (x 2), .int .u8 (x 3), .int .u8 (x 4), .int .u8 (x 5), .int .u8 (x 6), .int .u8 (x 7), .int .u8 (x 8), .int .u8 (x 9), .int .u8 (x 10), .int .u8 (x 11), .int .u8 (x 12), .int .u8 (x 13), .int .u8 (x 14), .int .u8 (x 15), .int .u8 (x 16), .int .u8 (x 17), .int .u8 (x 18), .int .u8 (x 19)], .int .i64 eb] = V115; generalize Value.agg #[.int .u8 (x 0), .int .u8 (x 1), .int .u8 (x 2), .int .u8 (x 3), .int .u8 (x 4), .int .u8 (x 5), .int .u8 (x 6), .int .u8 (x 7), .int .u8 (x 8), .int .u8 (x 9), .int .u8 (x 10), .int .u8 (x 11), .int .u8 (x 12), .int .u8 (x 13), .int .u8 (x 14), .int .u8 (x 15), .int .u8 (x 16), .int .u8 (x 17), .int .u8 (x 18), .int .u8 (x 19)] = V116))
      refine (Hh2.out w111 (HhT.out.at B113.out) B113.out).mono ?_
      rintro e w117 ⟨rfl, hb_⟩
      have B118 := Aside0.mk (below_step B113.out hb_)
      have B119 := Aside0.mk (below_step B114.out hb_)
      have H120 := Aside0.mk (blk_below H112.out hb_)
      clear hb_ B113 B114 H112
      go_wp2_with (first | ((with_reducible refine gate_dst (N := 13) rfl ?_); refine box_event ?hg (N := 13) ?hd (cs := #[.int .u8 0, .int .u8 0, .int .u8 0, .int .u8 0, .int .u8 0, .int .u8 0, .int .u8 0, .int .u8 0, .int .u8 0, .int .u8 0, .int .u8 0, .int .u8 0, .int .u8 0, .int .u8 0, .int .u8 0, .int .u8 0, .int .u8 0, .int .u8 0, .int .u8 0, .int .u8 0]) (t := 23) ?hr ?_; (case hd => rfl); (case hg => rfl); (case hr => first | (go_simp; done) | (go_simp; rfl)); intro g121 hgg121 w122 hhg121 hbg121; have H129 := Aside0.mk hhg121; have N123 : g104 ≠ g121 := Nat.ne_of_lt (Nat.lt_of_lt_of_eq (blk_lt H120.out) hgg121.symm); have G124 : w.heap.size ≤ g121 := Nat.le_trans B118.out.size (Nat.le_of_eq hgg121.symm); have G125 : wf.heap.size ≤ g121 := Nat.le_trans B119.out.size (Nat.le_of_eq hgg121.symm); have B126 := Aside0.mk (below_step B118.out hbg121); have B127 := Aside0.mk (below_step B119.out hbg121); have H128 := Aside0.mk (blk_below H120.out hbg121); clear hgg121 hhg121 hbg121 B118 B119 H120) | ((with_reducible refine gate_store (t := 23) (p := _) rfl ?_); refine storeN_event (T := 23) rfl rfl rfl rfl rfl (storeVar_blk H129.out 23 0 [.int .u8 (x 0), .int .u8 (x 1), .int .u8 (x 2), .int .u8 (x 3), .int .u8 (x 4), .int .u8 (x 5), .int .u8 (x 6), .int .u8 (x 7), .int .u8 (x 8), .int .u8 (x 9), .int .u8 (x 10), .int .u8 (x 11), .int .u8 (x 12), .int .u8 (x 13), .int .u8 (x 14), .int .u8 (x 15), .int .u8 (x 16), .int .u8 (x 17), .int .u8 (x 18), .int .u8 (x 19)] (by kernel_rfl) rfl (by simp)) ?_; have H131 := Aside0.mk (show (World.setCells w122 g121 0 [.int .u8 (x 0), .int .u8 (x 1), .int .u8 (x 2), .int .u8 (x 3), .int .u8 (x 4), .int .u8 (x 5), .int .u8 (x 6), .int .u8 (x 7), .int .u8 (x 8), .int .u8 (x 9), .int .u8 (x 10), .int .u8 (x 11), .int .u8 (x 12), .int .u8 (x 13), .int .u8 (x 14), .int .u8 (x 15), .int .u8 (x 16), .int .u8 (x 17), .int .u8 (x 18), .int .u8 (x 19)]).heap[g121]? = some (.cells #[.int .u8 (x 0), .int .u8 (x 1), .int .u8 (x 2), .int .u8 (x 3), .int .u8 (x 4), .int .u8 (x 5), .int .u8 (x 6), .int .u8 (x 7), .int .u8 (x 8), .int .u8 (x 9), .int .u8 (x 10), .int .u8 (x 11), .int .u8 (x 12), .int .u8 (x 13), .int .u8 (x 14), .int .u8 (x 15), .int .u8 (x 16), .int .u8 (x 17), .int .u8 (x 18), .int .u8 (x 19)] 23 (0, 0)) from blk_setCells [] [.int .u8 (x 0), .int .u8 (x 1), .int .u8 (x 2), .int .u8 (x 3), .int .u8 (x 4), .int .u8 (x 5), .int .u8 (x 6), .int .u8 (x 7), .int .u8 (x 8), .int .u8 (x 9), .int .u8 (x 10), .int .u8 (x 11), .int .u8 (x 12), .int .u8 (x 13), .int .u8 (x 14), .int .u8 (x 15), .int .u8 (x 16), .int .u8 (x 17), .int .u8 (x 18), .int .u8 (x 19)] [.int .u8 0, .int .u8 0, .int .u8 0, .int .u8 0, .int .u8 0, .int .u8 0, .int .u8 0, .int .u8 0, .int .u8 0, .int .u8 0, .int .u8 0, .int .u8 0, .int .u8 0, .int .u8 0, .int .u8 0, .int .u8 0, .int .u8 0, .int .u8 0, .int .u8 0, .int .u8 0] [] w122 rfl H129.out); have H132 := Aside0.mk (far_setCells N123 [.int .u8 (x 0), .int .u8 (x 1), .int .u8 (x 2), .int .u8 (x 3), .int .u8 (x 4), .int .u8 (x 5), .int .u8 (x 6), .int .u8 (x 7), .int .u8 (x 8), .int .u8 (x 9), .int .u8 (x 10), .int .u8 (x 11), .int .u8 (x 12), .int .u8 (x 13), .int .u8 (x 14), .int .u8 (x 15), .int .u8 (x 16), .int .u8 (x 17), .int .u8 (x 18), .int .u8 (x 19)] 0 w122 H128.out); have B133 := Aside0.mk (below_setCells G124 [.int .u8 (x 0), .int .u8 (x 1), .int .u8 (x 2), .int .u8 (x 3), .int .u8 (x 4), .int .u8 (x 5), .int .u8 (x 6), .int .u8 (x 7), .int .u8 (x 8), .int .u8 (x 9), .int .u8 (x 10), .int .u8 (x 11), .int .u8 (x 12), .int .u8 (x 13), .int .u8 (x 14), .int .u8 (x 15), .int .u8 (x 16), .int .u8 (x 17), .int .u8 (x 18), .int .u8 (x 19)] 0 w122 B126.out); have B134 := Aside0.mk (below_setCells G125 [.int .u8 (x 0), .int .u8 (x 1), .int .u8 (x 2), .int .u8 (x 3), .int .u8 (x 4), .int .u8 (x 5), .int .u8 (x 6), .int .u8 (x 7), .int .u8 (x 8), .int .u8 (x 9), .int .u8 (x 10), .int .u8 (x 11), .int .u8 (x 12), .int .u8 (x 13), .int .u8 (x 14), .int .u8 (x 15), .int .u8 (x 16), .int .u8 (x 17), .int .u8 (x 18), .int .u8 (x 19)] 0 w122 B127.out); clear H129 H128 B126 B127; generalize World.setCells w122 g121 0 [.int .u8 (x 0), .int .u8 (x 1), .int .u8 (x 2), .int .u8 (x 3), .int .u8 (x 4), .int .u8 (x 5), .int .u8 (x 6), .int .u8 (x 7), .int .u8 (x 8), .int .u8 (x 9), .int .u8 (x 10), .int .u8 (x 11), .int .u8 (x 12), .int .u8 (x 13), .int .u8 (x 14), .int .u8 (x 15), .int .u8 (x 16), .int .u8 (x 17), .int .u8 (x 18), .int .u8 (x 19)] = w130 at H132 H131 B133 B134 ⊢; generalize Value.tuple #[.agg #[.int .u8 (x 0), .int .u8 (x 1), .int .u8 (x 2), .int .u8 (x 3), .int .u8 (x 4), .int .u8 (x 5), .int .u8 (x 6), .int .u8 (x 7), .int .u8 (x 8), .int .u8 (x 9), .int .u8 (x 10), .int .u8 (x 11), .int .u8 (x 12), .int .u8 (x 13), .int .u8 (x 14), .int .u8 (x 15), .int .u8 (x 16), .int .u8 (x 17), .int .u8 (x 18), .int .u8 (x 19)], .int .i64 eb] = V135; generalize Value.agg #[.int .u8 (x 0), .int .u8 (x 1), .int .u8 (x 2), .int .u8 (x 3), .int .u8 (x 4), .int .u8 (x 5), .int .u8 (x 6), .int .u8 (x 7), .int .u8 (x 8), .int .u8 (x 9), .int .u8 (x 10), .int .u8 (x 11), .int .u8 (x 12), .int .u8 (x 13), .int .u8 (x 14), .int .u8 (x 15), .int .u8 (x 16), .int .u8 (x 17), .int .u8 (x 18), .int .u8 (x 19)] = V136))
      refine (Hh3.out w130 (HhT.out.at B133.out) B133.out).mono ?_
      rintro e w137 ⟨rfl, hb_⟩
      have B138 := Aside0.mk (below_step B133.out hb_)
      have B139 := Aside0.mk (below_step B134.out hb_)
      have H140 := Aside0.mk (blk_below H132.out hb_)
      have H141 := Aside0.mk (blk_below H131.out hb_)
      clear hb_ B133 B134 H132 H131
      go_wp2_with (first | ((with_reducible refine gate_dst (N := 15) rfl ?_); refine box_event ?hg (N := 15) ?hd (cs := #[.int .u8 0, .int .u8 0, .int .u8 0, .int .u8 0, .int .u8 0, .int .u8 0, .int .u8 0, .int .u8 0, .int .u8 0, .int .u8 0, .int .u8 0, .int .u8 0, .int .u8 0, .int .u8 0, .int .u8 0, .int .u8 0, .int .u8 0, .int .u8 0, .int .u8 0, .int .u8 0]) (t := 23) ?hr ?_; (case hd => rfl); (case hg => rfl); (case hr => first | (go_simp; done) | (go_simp; rfl)); intro g142 hgg142 w143 hhg142 hbg142; have H152 := Aside0.mk hhg142; have N144 : g104 ≠ g142 := Nat.ne_of_lt (Nat.lt_of_lt_of_eq (blk_lt H140.out) hgg142.symm); have N145 : g121 ≠ g142 := Nat.ne_of_lt (Nat.lt_of_lt_of_eq (blk_lt H141.out) hgg142.symm); have G146 : w.heap.size ≤ g142 := Nat.le_trans B138.out.size (Nat.le_of_eq hgg142.symm); have G147 : wf.heap.size ≤ g142 := Nat.le_trans B139.out.size (Nat.le_of_eq hgg142.symm); have B148 := Aside0.mk (below_step B138.out hbg142); have B149 := Aside0.mk (below_step B139.out hbg142); have H150 := Aside0.mk (blk_below H140.out hbg142); have H151 := Aside0.mk (blk_below H141.out hbg142); clear hgg142 hhg142 hbg142 B138 B139 H140 H141) | ((with_reducible refine gate_store (t := 23) (p := _) rfl ?_); refine storeN_event (T := 23) rfl rfl rfl rfl rfl (storeVar_blk H152.out 23 0 [.int .u8 (y 0), .int .u8 (y 1), .int .u8 (y 2), .int .u8 (y 3), .int .u8 (y 4), .int .u8 (y 5), .int .u8 (y 6), .int .u8 (y 7), .int .u8 (y 8), .int .u8 (y 9), .int .u8 (y 10), .int .u8 (y 11), .int .u8 (y 12), .int .u8 (y 13), .int .u8 (y 14), .int .u8 (y 15), .int .u8 (y 16), .int .u8 (y 17), .int .u8 (y 18), .int .u8 (y 19)] (by kernel_rfl) rfl (by simp)) ?_; have H154 := Aside0.mk (show (World.setCells w143 g142 0 [.int .u8 (y 0), .int .u8 (y 1), .int .u8 (y 2), .int .u8 (y 3), .int .u8 (y 4), .int .u8 (y 5), .int .u8 (y 6), .int .u8 (y 7), .int .u8 (y 8), .int .u8 (y 9), .int .u8 (y 10), .int .u8 (y 11), .int .u8 (y 12), .int .u8 (y 13), .int .u8 (y 14), .int .u8 (y 15), .int .u8 (y 16), .int .u8 (y 17), .int .u8 (y 18), .int .u8 (y 19)]).heap[g142]? = some (.cells #[.int .u8 (y 0), .int .u8 (y 1), .int .u8 (y 2), .int .u8 (y 3), .int .u8 (y 4), .int .u8 (y 5), .int .u8 (y 6), .int .u8 (y 7), .int .u8 (y 8), .int .u8 (y 9), .int .u8 (y 10), .int .u8 (y 11), .int .u8 (y 12), .int .u8 (y 13), .int .u8 (y 14), .int .u8 (y 15), .int .u8 (y 16), .int .u8 (y 17), .int .u8 (y 18), .int .u8 (y 19)] 23 (0, 0)) from blk_setCells [] [.int .u8 (y 0), .int .u8 (y 1), .int .u8 (y 2), .int .u8 (y 3), .int .u8 (y 4), .int .u8 (y 5), .int .u8 (y 6), .int .u8 (y 7), .int .u8 (y 8), .int .u8 (y 9), .int .u8 (y 10), .int .u8 (y 11), .int .u8 (y 12), .int .u8 (y 13), .int .u8 (y 14), .int .u8 (y 15), .int .u8 (y 16), .int .u8 (y 17), .int .u8 (y 18), .int .u8 (y 19)] [.int .u8 0, .int .u8 0, .int .u8 0, .int .u8 0, .int .u8 0, .int .u8 0, .int .u8 0, .int .u8 0, .int .u8 0, .int .u8 0, .int .u8 0, .int .u8 0, .int .u8 0, .int .u8 0, .int .u8 0, .int .u8 0, .int .u8 0, .int .u8 0, .int .u8 0, .int .u8 0] [] w143 rfl H152.out); have H155 := Aside0.mk (far_setCells N144 [.int .u8 (y 0), .int .u8 (y 1), .int .u8 (y 2), .int .u8 (y 3), .int .u8 (y 4), .int .u8 (y 5), .int .u8 (y 6), .int .u8 (y 7), .int .u8 (y 8), .int .u8 (y 9), .int .u8 (y 10), .int .u8 (y 11), .int .u8 (y 12), .int .u8 (y 13), .int .u8 (y 14), .int .u8 (y 15), .int .u8 (y 16), .int .u8 (y 17), .int .u8 (y 18), .int .u8 (y 19)] 0 w143 H150.out); have H156 := Aside0.mk (far_setCells N145 [.int .u8 (y 0), .int .u8 (y 1), .int .u8 (y 2), .int .u8 (y 3), .int .u8 (y 4), .int .u8 (y 5), .int .u8 (y 6), .int .u8 (y 7), .int .u8 (y 8), .int .u8 (y 9), .int .u8 (y 10), .int .u8 (y 11), .int .u8 (y 12), .int .u8 (y 13), .int .u8 (y 14), .int .u8 (y 15), .int .u8 (y 16), .int .u8 (y 17), .int .u8 (y 18), .int .u8 (y 19)] 0 w143 H151.out); have B157 := Aside0.mk (below_setCells G146 [.int .u8 (y 0), .int .u8 (y 1), .int .u8 (y 2), .int .u8 (y 3), .int .u8 (y 4), .int .u8 (y 5), .int .u8 (y 6), .int .u8 (y 7), .int .u8 (y 8), .int .u8 (y 9), .int .u8 (y 10), .int .u8 (y 11), .int .u8 (y 12), .int .u8 (y 13), .int .u8 (y 14), .int .u8 (y 15), .int .u8 (y 16), .int .u8 (y 17), .int .u8 (y 18), .int .u8 (y 19)] 0 w143 B148.out); have B158 := Aside0.mk (below_setCells G147 [.int .u8 (y 0), .int .u8 (y 1), .int .u8 (y 2), .int .u8 (y 3), .int .u8 (y 4), .int .u8 (y 5), .int .u8 (y 6), .int .u8 (y 7), .int .u8 (y 8), .int .u8 (y 9), .int .u8 (y 10), .int .u8 (y 11), .int .u8 (y 12), .int .u8 (y 13), .int .u8 (y 14), .int .u8 (y 15), .int .u8 (y 16), .int .u8 (y 17), .int .u8 (y 18), .int .u8 (y 19)] 0 w143 B149.out); clear H152 H150 H151 B148 B149; generalize World.setCells w143 g142 0 [.int .u8 (y 0), .int .u8 (y 1), .int .u8 (y 2), .int .u8 (y 3), .int .u8 (y 4), .int .u8 (y 5), .int .u8 (y 6), .int .u8 (y 7), .int .u8 (y 8), .int .u8 (y 9), .int .u8 (y 10), .int .u8 (y 11), .int .u8 (y 12), .int .u8 (y 13), .int .u8 (y 14), .int .u8 (y 15), .int .u8 (y 16), .int .u8 (y 17), .int .u8 (y 18), .int .u8 (y 19)] = w153 at H155 H156 H154 B157 B158 ⊢; generalize Value.tuple #[.agg #[.int .u8 (y 0), .int .u8 (y 1), .int .u8 (y 2), .int .u8 (y 3), .int .u8 (y 4), .int .u8 (y 5), .int .u8 (y 6), .int .u8 (y 7), .int .u8 (y 8), .int .u8 (y 9), .int .u8 (y 10), .int .u8 (y 11), .int .u8 (y 12), .int .u8 (y 13), .int .u8 (y 14), .int .u8 (y 15), .int .u8 (y 16), .int .u8 (y 17), .int .u8 (y 18), .int .u8 (y 19)], .int .i64 er] = V159; generalize Value.agg #[.int .u8 (y 0), .int .u8 (y 1), .int .u8 (y 2), .int .u8 (y 3), .int .u8 (y 4), .int .u8 (y 5), .int .u8 (y 6), .int .u8 (y 7), .int .u8 (y 8), .int .u8 (y 9), .int .u8 (y 10), .int .u8 (y 11), .int .u8 (y 12), .int .u8 (y 13), .int .u8 (y 14), .int .u8 (y 15), .int .u8 (y 16), .int .u8 (y 17), .int .u8 (y 18), .int .u8 (y 19)] = V160))
      refine (Hh4.out w153 (HhT.out.at B157.out) B157.out).mono ?_
      rintro e w161 ⟨rfl, hb_⟩
      have B162 := Aside0.mk (below_step B157.out hb_)
      have B163 := Aside0.mk (below_step B158.out hb_)
      have H164 := Aside0.mk (blk_below H155.out hb_)
      have H165 := Aside0.mk (blk_below H156.out hb_)
      have H166 := Aside0.mk (blk_below H154.out hb_)
      clear hb_ B157 B158 H155 H156 H154
      go_wp2_with (first | ((with_reducible refine gate_dst (N := 17) rfl ?_); refine box_event ?hg (N := 17) ?hd (cs := #[.int .u8 0, .int .u8 0, .int .u8 0, .int .u8 0, .int .u8 0, .int .u8 0, .int .u8 0, .int .u8 0, .int .u8 0, .int .u8 0, .int .u8 0, .int .u8 0, .int .u8 0, .int .u8 0, .int .u8 0, .int .u8 0, .int .u8 0, .int .u8 0, .int .u8 0, .int .u8 0]) (t := 23) ?hr ?_; (case hd => rfl); (case hg => rfl); (case hr => first | (go_simp; done) | (go_simp; rfl)); intro g167 hgg167 w168 hhg167 hbg167; have H179 := Aside0.mk hhg167; have N169 : g104 ≠ g167 := Nat.ne_of_lt (Nat.lt_of_lt_of_eq (blk_lt H164.out) hgg167.symm); have N170 : g121 ≠ g167 := Nat.ne_of_lt (Nat.lt_of_lt_of_eq (blk_lt H165.out) hgg167.symm); have N171 : g142 ≠ g167 := Nat.ne_of_lt (Nat.lt_of_lt_of_eq (blk_lt H166.out) hgg167.symm); have G172 : w.heap.size ≤ g167 := Nat.le_trans B162.out.size (Nat.le_of_eq hgg167.symm); have G173 : wf.heap.size ≤ g167 := Nat.le_trans B163.out.size (Nat.le_of_eq hgg167.symm); have B174 := Aside0.mk (below_step B162.out hbg167); have B175 := Aside0.mk (below_step B163.out hbg167); have H176 := Aside0.mk (blk_below H164.out hbg167); have H177 := Aside0.mk (blk_below H165.out hbg167); have H178 := Aside0.mk (blk_below H166.out hbg167); clear hgg167 hhg167 hbg167 B162 B163 H164 H165 H166) | ((with_reducible refine gate_store (t := 23) (p := _) rfl ?_); refine storeN_event (T := 23) rfl rfl rfl rfl rfl (storeVar_blk H179.out 23 0 [.int .u8 (y 0), .int .u8 (y 1), .int .u8 (y 2), .int .u8 (y 3), .int .u8 (y 4), .int .u8 (y 5), .int .u8 (y 6), .int .u8 (y 7), .int .u8 (y 8), .int .u8 (y 9), .int .u8 (y 10), .int .u8 (y 11), .int .u8 (y 12), .int .u8 (y 13), .int .u8 (y 14), .int .u8 (y 15), .int .u8 (y 16), .int .u8 (y 17), .int .u8 (y 18), .int .u8 (y 19)] (by kernel_rfl) rfl (by simp)) ?_; have H181 := Aside0.mk (show (World.setCells w168 g167 0 [.int .u8 (y 0), .int .u8 (y 1), .int .u8 (y 2), .int .u8 (y 3), .int .u8 (y 4), .int .u8 (y 5), .int .u8 (y 6), .int .u8 (y 7), .int .u8 (y 8), .int .u8 (y 9), .int .u8 (y 10), .int .u8 (y 11), .int .u8 (y 12), .int .u8 (y 13), .int .u8 (y 14), .int .u8 (y 15), .int .u8 (y 16), .int .u8 (y 17), .int .u8 (y 18), .int .u8 (y 19)]).heap[g167]? = some (.cells #[.int .u8 (y 0), .int .u8 (y 1), .int .u8 (y 2), .int .u8 (y 3), .int .u8 (y 4), .int .u8 (y 5), .int .u8 (y 6), .int .u8 (y 7), .int .u8 (y 8), .int .u8 (y 9), .int .u8 (y 10), .int .u8 (y 11), .int .u8 (y 12), .int .u8 (y 13), .int .u8 (y 14), .int .u8 (y 15), .int .u8 (y 16), .int .u8 (y 17), .int .u8 (y 18), .int .u8 (y 19)] 23 (0, 0)) from blk_setCells [] [.int .u8 (y 0), .int .u8 (y 1), .int .u8 (y 2), .int .u8 (y 3), .int .u8 (y 4), .int .u8 (y 5), .int .u8 (y 6), .int .u8 (y 7), .int .u8 (y 8), .int .u8 (y 9), .int .u8 (y 10), .int .u8 (y 11), .int .u8 (y 12), .int .u8 (y 13), .int .u8 (y 14), .int .u8 (y 15), .int .u8 (y 16), .int .u8 (y 17), .int .u8 (y 18), .int .u8 (y 19)] [.int .u8 0, .int .u8 0, .int .u8 0, .int .u8 0, .int .u8 0, .int .u8 0, .int .u8 0, .int .u8 0, .int .u8 0, .int .u8 0, .int .u8 0, .int .u8 0, .int .u8 0, .int .u8 0, .int .u8 0, .int .u8 0, .int .u8 0, .int .u8 0, .int .u8 0, .int .u8 0] [] w168 rfl H179.out); have H182 := Aside0.mk (far_setCells N169 [.int .u8 (y 0), .int .u8 (y 1), .int .u8 (y 2), .int .u8 (y 3), .int .u8 (y 4), .int .u8 (y 5), .int .u8 (y 6), .int .u8 (y 7), .int .u8 (y 8), .int .u8 (y 9), .int .u8 (y 10), .int .u8 (y 11), .int .u8 (y 12), .int .u8 (y 13), .int .u8 (y 14), .int .u8 (y 15), .int .u8 (y 16), .int .u8 (y 17), .int .u8 (y 18), .int .u8 (y 19)] 0 w168 H176.out); have H183 := Aside0.mk (far_setCells N170 [.int .u8 (y 0), .int .u8 (y 1), .int .u8 (y 2), .int .u8 (y 3), .int .u8 (y 4), .int .u8 (y 5), .int .u8 (y 6), .int .u8 (y 7), .int .u8 (y 8), .int .u8 (y 9), .int .u8 (y 10), .int .u8 (y 11), .int .u8 (y 12), .int .u8 (y 13), .int .u8 (y 14), .int .u8 (y 15), .int .u8 (y 16), .int .u8 (y 17), .int .u8 (y 18), .int .u8 (y 19)] 0 w168 H177.out); have H184 := Aside0.mk (far_setCells N171 [.int .u8 (y 0), .int .u8 (y 1), .int .u8 (y 2), .int .u8 (y 3), .int .u8 (y 4), .int .u8 (y 5), .int .u8 (y 6), .int .u8 (y 7), .int .u8 (y 8), .int .u8 (y 9), .int .u8 (y 10), .int .u8 (y 11), .int .u8 (y 12), .int .u8 (y 13), .int .u8 (y 14), .int .u8 (y 15), .int .u8 (y 16), .int .u8 (y 17), .int .u8 (y 18), .int .u8 (y 19)] 0 w168 H178.out); have B185 := Aside0.mk (below_setCells G172 [.int .u8 (y 0), .int .u8 (y 1), .int .u8 (y 2), .int .u8 (y 3), .int .u8 (y 4), .int .u8 (y 5), .int .u8 (y 6), .int .u8 (y 7), .int .u8 (y 8), .int .u8 (y 9), .int .u8 (y 10), .int .u8 (y 11), .int .u8 (y 12), .int .u8 (y 13), .int .u8 (y 14), .int .u8 (y 15), .int .u8 (y 16), .int .u8 (y 17), .int .u8 (y 18), .int .u8 (y 19)] 0 w168 B174.out); have B186 := Aside0.mk (below_setCells G173 [.int .u8 (y 0), .int .u8 (y 1), .int .u8 (y 2), .int .u8 (y 3), .int .u8 (y 4), .int .u8 (y 5), .int .u8 (y 6), .int .u8 (y 7), .int .u8 (y 8), .int .u8 (y 9), .int .u8 (y 10), .int .u8 (y 11), .int .u8 (y 12), .int .u8 (y 13), .int .u8 (y 14), .int .u8 (y 15), .int .u8 (y 16), .int .u8 (y 17), .int .u8 (y 18), .int .u8 (y 19)] 0 w168 B175.out); clear H179 H176 H177 H178 B174 B175; generalize World.setCells w168 g167 0 [.int .u8 (y 0), .int .u8 (y 1), .int .u8 (y 2), .int .u8 (y 3), .int .u8 (y 4), .int .u8 (y 5), .int .u8 (y 6), .int .u8 (y 7), .int .u8 (y 8), .int .u8 (y 9), .int .u8 (y 10), .int .u8 (y 11), .int .u8 (y 12), .int .u8 (y 13), .int .u8 (y 14), .int .u8 (y 15), .int .u8 (y 16), .int .u8 (y 17), .int .u8 (y 18), .int .u8 (y 19)] = w180 at H182 H183 H184 H181 B185 B186 ⊢; generalize Value.tuple #[.agg #[.int .u8 (y 0), .int .u8 (y 1), .int .u8 (y 2), .int .u8 (y 3), .int .u8 (y 4), .int .u8 (y 5), .int .u8 (y 6), .int .u8 (y 7), .int .u8 (y 8), .int .u8 (y 9), .int .u8 (y 10), .int .u8 (y 11), .int .u8 (y 12), .int .u8 (y 13), .int .u8 (y 14), .int .u8 (y 15), .int .u8 (y 16), .int .u8 (y 17), .int .u8 (y 18), .int .u8 (y 19)], .int .i64 er] = V187; generalize Value.agg #[.int .u8 (y 0), .int .u8 (y 1), .int .u8 (y 2), .int .u8 (y 3), .int .u8 (y 4), .int .u8 (y 5), .int .u8 (y 6), .int .u8 (y 7), .int .u8 (y 8), .int .u8 (y 9), .int .u8 (y 10), .int .u8 (y 11), .int .u8 (y 12), .int .u8 (y 13), .int .u8 (y 14), .int .u8 (y 15), .int .u8 (y 16), .int .u8 (y 17), .int .u8 (y 18), .int .u8 (y 19)] = V188))
      refine (Hh5.out w180 (HhT.out.at B185.out) B185.out).mono ?_
      rintro e w189 ⟨vp_, rfl, hR_, hb_⟩
      have B190 := Aside0.mk (below_step B185.out hb_)
      have B191 := Aside0.mk (below_step B186.out hb_)
      have H192 := Aside0.mk (blk_below H182.out hb_)
      have H193 := Aside0.mk (blk_below H183.out hb_)
      have H194 := Aside0.mk (blk_below H184.out hb_)
      have H195 := Aside0.mk (blk_below H181.out hb_)
      clear hb_ B185 B186 H182 H183 H184 H181
      obtain ⟨rp, cp, rfl, hle_, hC_⟩ := Kd.R_reads hR_
      have RP := Aside0.mk hC_
      clear hC_ hle_ hR_
      go_wp2_with fail
      refine (Hh6.out w189 (HhT.out.at B190.out) B190.out).mono ?_
      rintro e w196 ⟨vo_, rfl, hR_, hb_⟩
      have B197 := Aside0.mk (below_step B190.out hb_)
      have B198 := Aside0.mk (below_step B191.out hb_)
      have B199 := Aside0.mk (hb_)
      have H200 := Aside0.mk (blk_below H192.out hb_)
      have H201 := Aside0.mk (blk_below H193.out hb_)
      have H202 := Aside0.mk (blk_below H194.out hb_)
      have H203 := Aside0.mk (blk_below H195.out hb_)
      clear hb_ B190 B191 H192 H193 H194 H195
      obtain ⟨ro, co, rfl, hle_, hC_⟩ := Kd.R_reads hR_
      have RO := Aside0.mk hC_
      clear hC_ hle_ hR_
      go_wp2_with fail
      refine (Hh7.out w196 (HhT.out.at B197.out) B197.out).mono ?_
      rintro e w204 ⟨rfl, hb_⟩
      have B205 := Aside0.mk (below_step B197.out hb_)
      have B206 := Aside0.mk (below_step B198.out hb_)
      have B207 := Aside0.mk (below_step B199.out hb_)
      have B208 := Aside0.mk (hb_)
      have H209 := Aside0.mk (blk_below H200.out hb_)
      have H210 := Aside0.mk (blk_below H201.out hb_)
      have H211 := Aside0.mk (blk_below H202.out hb_)
      have H212 := Aside0.mk (blk_below H203.out hb_)
      clear hb_ B197 B198 B199 H200 H201 H202 H203
      go_wp2_with fail
      refine (Hh8.out w204 (HhT.out.at B205.out) B205.out).mono ?_
      rintro e w213 ⟨rfl, hb_⟩
      have B214 := Aside0.mk (below_step B205.out hb_)
      have B215 := Aside0.mk (below_step B206.out hb_)
      have B216 := Aside0.mk (below_step B207.out hb_)
      have B217 := Aside0.mk (below_step B208.out hb_)
      have H218 := Aside0.mk (blk_below H209.out hb_)
      have H219 := Aside0.mk (blk_below H210.out hb_)
      have H220 := Aside0.mk (blk_below H211.out hb_)
      have H221 := Aside0.mk (blk_below H212.out hb_)
      clear hb_ B205 B206 B207 B208 H209 H210 H211 H212
      go_wp2_with fail
      go_loopg [27, 28] ll.length (fun q_ v1_ v2_ w1_ => ∃ (k : Nat), v2_ = .int .i64 (k : Int) ∧ Aside0 (k + q_ = ll.length) ∧ Aside0 (Kd.R (Kd.int .u8) 5 w1_ w213.heap.size (fun _ => True) v1_ (cat ll k)) ∧ Aside0 (Below w213.heap.size w213 w1_))
      case atStart => exact ⟨0, rfl, ⟨by omega⟩, ⟨Kd.R_nil _ _ _ _ _⟩, ⟨Below.refl _ _⟩⟩
      case round =>
        obtain ⟨k, rfl, HK, HO, BB⟩ := hrel
        by_cases hk : k < ll.length
        · obtain ⟨go, rfl⟩ : ∃ j, gk = j + 1 := ⟨gk - 1, by have := HK.out; omega⟩
          have hi1 : ((k : Int) < ((ll.length : Nat) : Int)) = True := eq_true (by omega)
          have hi2 : (k < ll.length) = True := eq_true hk
          have hi3 : (0 ≤ (k : Int)) = True := eq_true (by omega)
          have u1 : wrap64 ((k : Int) + 1) = ((k + 1 : Nat) : Int) := by have := Hhl.out; unfold wrap64; omega
          obtain ⟨i2, hi2'⟩ : ∃ x : Nat, x = k + 1 := ⟨_, rfl⟩
          rw [← hi2'] at u1
          have HI2 := Aside0.mk hi2'
          obtain ⟨ad, rfl, hx_⟩ : ∃ ad, A = some ad ∧ True := by obtain ⟨ad, e, _⟩ := Hhr.out.2.2 (by omega); exact ⟨ad, e, trivial⟩
          obtain ⟨Ai, ci, hcell, hle_, hC_⟩ := rows_get (Kd.C_below Hhr.out (below_step B214.out BB.out)) k hk
          have hm := tot_mono ll (k + 1) (ll.length - (k + 1))
          rw [show k + 1 + (ll.length - (k + 1)) = ll.length by omega] at hm
          have ht1 : (cat ll k).length + (ll.getD k []).length ≤ 1000000000 := by have := Hht.out; rw [tot] at hm; rw [cat_length]; omega
          obtain ⟨x_, hx⟩ : ∃ x : List Int, x = ll.getD k [] := ⟨_, rfl⟩
          have HCT := Aside0.mk (show cat ll (k + 1) = cat ll k ++ x_ by rw [hx]; rfl)
          rw [← hx] at hcell hC_ ht1 hle_
          have HC := Aside0.mk hC_
          have HT1 := Aside0.mk ht1
          clear hx_ hm hx hC_ ht1 hk hi2' hle_
          go_wp2_with (first | ((with_reducible refine gate_builtin (b := .append) (xs := #[.tmp 108, .tmp 112]) rfl ?_); at_builtin; refine Kd.R_append_rows (Kd.int .u8) (w0 := w213) w213.heap.size rfl (.tmp 108) (.tmp 112) 26 5 (.int .u8 0) 1 rfl Tryd.underlying26 info5p rfl (by decide) (by omega) _ (cat ll k) x_ _ _ _ (fun _ => True) (fun _ => False) rfl rfl ?aO ?aR (fun _ _ h => h) (fun _ h => h.elim) ?aF ?aB ?aS ?aL ?_; (case aR => exact HC.out); (case aB => exact BB.out); (case aF => exact (fun _ _ => trivial)); (case aO => exact HO.out); (case aS => exact below_size BB.out); (case aL => have := HT1.out; omega); intro v4_ w4_ ho hb hg hat; have HO4 := Aside0.mk ho; have B4 := Aside0.mk hb; clear ho hb hg hat HO BB hcell))
          go_roundg go
          case measure => have := HK.out; omega
          case rel => exact ⟨i2, (by first | rfl | rw [u1]), ⟨by have := HK.out; have := HI2.out; omega⟩, ⟨by rw [HI2.out, HCT.out]; exact HO4.out⟩, B4⟩
        · have HKE := Aside0.mk (show k = ll.length by have := HK.out; omega)
          have hi1 : ((k : Int) < ((ll.length : Nat) : Int)) = False := eq_false (by omega)
          have hi2 : (k < ll.length) = False := eq_false hk
          clear hk
          have B322 := Aside0.mk (below_step B214.out BB.out)
          have B323 := Aside0.mk (below_step B215.out BB.out)
          have B324 := Aside0.mk (below_step B216.out BB.out)
          have B325 := Aside0.mk (below_step B217.out BB.out)
          have B326 := Aside0.mk (BB.out)
          have H327 := Aside0.mk (blk_below H218.out BB.out)
          have H328 := Aside0.mk (blk_below H219.out BB.out)
          have H329 := Aside0.mk (blk_below H220.out BB.out)
          have H330 := Aside0.mk (blk_below H221.out BB.out)
          obtain ⟨rb, cbb, rfl, hle_, hC_⟩ := Kd.R_reads HO.out
          rw [HKE.out] at hC_
          have hal : (cat ll k).length = tot ll ll.length := by rw [HKE.out, cat_length]
          rw [hal, ← HTT.out]
          rw [cat_length, ← HTT.out] at hC_
          have RB := Aside0.mk hC_
          clear hC_ hle_ HO HK HKE hal
          go_wp2_with (first | ((with_reducible refine gate_dst (N := 114) rfl ?_); refine loadG_event (T := 23) (by rfl) rfl rfl (run_loadVar_row _ _ _ _ _ (0, 0) _ H327.out Tryd.underlying23 rfl (by kernel_rfl)) ?_) | ((with_reducible refine gate_dst (N := 115) rfl ?_); refine loadG_event (T := 23) (by rfl) rfl rfl (run_loadVar_row _ _ _ _ _ (0, 0) _ H328.out Tryd.underlying23 rfl (by kernel_rfl)) ?_) | ((with_reducible refine gate_dst (N := 123) rfl ?_); refine loadG_event (T := 23) (by rfl) rfl rfl (run_loadVar_row _ _ _ _ _ (0, 0) _ H329.out Tryd.underlying23 rfl (by kernel_rfl)) ?_) | ((with_reducible refine gate_dst (N := 124) rfl ?_); refine loadG_event (T := 23) (by rfl) rfl rfl (run_loadVar_row _ _ _ _ _ (0, 0) _ H330.out Tryd.underlying23 rfl (by kernel_rfl)) ?_))
          refine (same_sums rp ro cp co ps wr (Kd.C_below RP.out B324.out) (Kd.C_below RO.out B325.out) Hhp.out).mono ?_
          rintro e w331 ⟨rfl, hb_⟩
          have B332 := Aside0.mk (below_step B322.out hb_)
          have B333 := Aside0.mk (below_step B323.out hb_)
          have B334 := Aside0.mk (below_step B324.out hb_)
          have B335 := Aside0.mk (below_step B325.out hb_)
          have B336 := Aside0.mk (below_step B326.out hb_)
          have B337 := Aside0.mk (hb_)
          have H338 := Aside0.mk (blk_below H327.out hb_)
          have H339 := Aside0.mk (blk_below H328.out hb_)
          have H340 := Aside0.mk (blk_below H329.out hb_)
          have H341 := Aside0.mk (blk_below H330.out hb_)
          clear hb_ B322 B323 B324 B325 B326 H327 H328 H329 H330
          have cv1 := conv_of (c := ca) (Kd.C_below RA.out B333.out)
          have cv2 := conv_of (c := cbb) (Kd.C_below RB.out B337.out)
          go_wp2_with fail
          go_ret
          exact ⟨rfl, B332.out⟩
set_option maxHeartbeats 3200000 in
set_option maxRecDepth 100000 in
theorem roots_many (A : Option Addr) (c : Nat) (ll : List (List Int)) (B : Option Addr) (M cb : Nat) (n i : Int) (w : World) (hr : Kd.C (Kd.slice 5 (Kd.int .u8)) w A ll.length ll) (hlc : ll.length ≤ c) (hg : great ll = false) (hw : 10000 < M ∧ M ≤ 10100) (hT : TabQ w) (hl : ll.length ≤ 650) (ht : tot ll ll.length ≤ 1000000000) (x y : Dg) (eb er ep m es : Int) (ps : List Dg) (hp : ps.length ≤ 1000000)
    (h1 : ∀ W : World, TabQ W → Below w.heap.size w W → Calls Tryd.prog 39 #[.slice B M cb] W fun e w' => e = .returned (.tuple #[.agg #[.int .u8 (x 0), .int .u8 (x 1), .int .u8 (x 2), .int .u8 (x 3), .int .u8 (x 4), .int .u8 (x 5), .int .u8 (x 6), .int .u8 (x 7), .int .u8 (x 8), .int .u8 (x 9), .int .u8 (x 10), .int .u8 (x 11), .int .u8 (x 12), .int .u8 (x 13), .int .u8 (x 14), .int .u8 (x 15), .int .u8 (x 16), .int .u8 (x 17), .int .u8 (x 18), .int .u8 (x 19)], .int .i64 eb]) ∧ Below W.heap.size W w') (h2 : ∀ W : World, TabQ W → Below w.heap.size w W → Calls Tryd.prog 60 #[.slice B M cb] W fun e w' => e = .returned (.tuple #[.agg #[.int .u8 (x 0), .int .u8 (x 1), .int .u8 (x 2), .int .u8 (x 3), .int .u8 (x 4), .int .u8 (x 5), .int .u8 (x 6), .int .u8 (x 7), .int .u8 (x 8), .int .u8 (x 9), .int .u8 (x 10), .int .u8 (x 11), .int .u8 (x 12), .int .u8 (x 13), .int .u8 (x 14), .int .u8 (x 15), .int .u8 (x 16), .int .u8 (x 17), .int .u8 (x 18), .int .u8 (x 19)], .int .i64 eb]) ∧ Below W.heap.size W w') (h3 : ∀ W : World, TabQ W → Below w.heap.size w W → Calls Tryd.prog 35 #[.slice A ll.length c] W fun e w' => e = .returned (.tuple #[.agg #[.int .u8 (y 0), .int .u8 (y 1), .int .u8 (y 2), .int .u8 (y 3), .int .u8 (y 4), .int .u8 (y 5), .int .u8 (y 6), .int .u8 (y 7), .int .u8 (y 8), .int .u8 (y 9), .int .u8 (y 10), .int .u8 (y 11), .int .u8 (y 12), .int .u8 (y 13), .int .u8 (y 14), .int .u8 (y 15), .int .u8 (y 16), .int .u8 (y 17), .int .u8 (y 18), .int .u8 (y 19)], .int .i64 er]) ∧ Below W.heap.size W w') (h4 : ∀ W : World, TabQ W → Below w.heap.size w W → Calls Tryd.prog 61 #[.slice A ll.length c] W fun e w' => e = .returned (.tuple #[.agg #[.int .u8 (y 0), .int .u8 (y 1), .int .u8 (y 2), .int .u8 (y 3), .int .u8 (y 4), .int .u8 (y 5), .int .u8 (y 6), .int .u8 (y 7), .int .u8 (y 8), .int .u8 (y 9), .int .u8 (y 10), .int .u8 (y 11), .int .u8 (y 12), .int .u8 (y 13), .int .u8 (y 14), .int .u8 (y 15), .int .u8 (y 16), .int .u8 (y 17), .int .u8 (y 18), .int .u8 (y 19)], .int .i64 er]) ∧ Below W.heap.size W w') (h5 : ∀ W : World, TabQ W → Below w.heap.size w W → Calls Tryd.prog 36 #[.slice A ll.length c, .int .i64 i] W fun e w' => ∃ v0_ : Value, e = .returned (.tuple #[v0_, .int .i64 ep]) ∧ Kd.R kdg 23 w' W.heap.size (fun _ => True) v0_ ps ∧ Below W.heap.size W w') (h6 : ∀ W : World, TabQ W → Below w.heap.size w W → Calls Tryd.prog 62 #[.slice A ll.length c, .int .i64 i] W fun e w' => ∃ v0_ : Value, e = .returned (.tuple #[v0_, .int .i64 ep]) ∧ Kd.R kdg 23 w' W.heap.size (fun _ => True) v0_ ps ∧ Below W.heap.size W w') (h7 : ∀ W : World, TabQ W → Below w.heap.size w W → Calls Tryd.prog 37 #[.int .i64 n, .int .i64 i] W fun e w' => e = .returned (.tuple #[.int .i64 m, .int .i64 es]) ∧ Below W.heap.size W w') (h8 : ∀ W : World, TabQ W → Below w.heap.size w W → Calls Tryd.prog 63 #[.int .i64 n, .int .i64 i] W fun e w' => e = .returned (.tuple #[.int .i64 m, .int .i64 es]) ∧ Below W.heap.size W w') :
    Calls Tryd.prog 18 #[.slice A ll.length c, .slice B M cb, .int .i64 n, .int .i64 i] w fun e w' => e = .returned (.bool true) ∧ Below w.heap.size w w' := by
  have Hhr := Aside0.mk hr
  have Hhlc := Aside0.mk hlc
  have Hhg := Aside0.mk hg
  have HhT := Aside0.mk hT
  have Hhl := Aside0.mk hl
  have Hht := Aside0.mk ht
  have Hh1 := Aside0.mk h1
  have Hh2 := Aside0.mk h2
  have Hh3 := Aside0.mk h3
  have Hh4 := Aside0.mk h4
  have Hh5 := Aside0.mk h5
  have Hh6 := Aside0.mk h6
  have Hh7 := Aside0.mk h7
  have Hh8 := Aside0.mk h8
  have f0a : ((600 : Int) < (M : Int)) = True := eq_true (by omega)
  have f0b : ((M : Int) ≤ (600 : Int)) = False := eq_false (by omega)
  have f1a : ((10000 : Int) < (M : Int)) = True := eq_true (by omega)
  have f1b : ((M : Int) ≤ (10000 : Int)) = False := eq_false (by omega)
  have f2a : ((10100 : Int) < (M : Int)) = False := eq_false (by omega)
  have f2b : ((M : Int) ≤ (10100 : Int)) = True := eq_true (by omega)
  have Hhp := Aside0.mk hp
  clear hr hlc hg hw hp hT hl ht h1 h2 h3 h4 h5 h6 h7 h8
  go_enter Tryd.func18, Tryd.ntmps18
  go_wp2_with fail
  refine (great_calls A c ll _ Hhr.out Hhlc.out).mono ?_
  rintro e w' ⟨rfl, hw_⟩
  obtain rfl : w = w' := hw_.symm
  rw [Hhg.out]
  have hqx := fun (k : Nat) (W : World) => eqA23 k W (x 0) (x 0) (x 1) (x 1) (x 2) (x 2) (x 3) (x 3) (x 4) (x 4) (x 5) (x 5) (x 6) (x 6) (x 7) (x 7) (x 8) (x 8) (x 9) (x 9) (x 10) (x 10) (x 11) (x 11) (x 12) (x 12) (x 13) (x 13) (x 14) (x 14) (x 15) (x 15) (x 16) (x 16) (x 17) (x 17) (x 18) (x 18) (x 19) (x 19)
  have hqy := fun (k : Nat) (W : World) => eqA23 k W (y 0) (y 0) (y 1) (y 1) (y 2) (y 2) (y 3) (y 3) (y 4) (y 4) (y 5) (y 5) (y 6) (y 6) (y 7) (y 7) (y 8) (y 8) (y 9) (y 9) (y 10) (y 10) (y 11) (y 11) (y 12) (y 12) (y 13) (y 13) (y 14) (y 14) (y 15) (y 15) (y 16) (y 16) (y 17) (y 17) (y 18) (y 18) (y 19) (y 19)
  simp only [beq_self_eq_true, Bool.and_self] at hqx hqy
  go_wp2_with fail
  go_loopg [9, 10] ll.length (fun q_ v1_ v2_ w1_ => ∃ (k : Nat), v2_ = .int .i64 (k : Int) ∧ Aside0 (k + q_ = ll.length) ∧ Aside0 (Kd.R (Kd.int .u8) 5 w1_ w.heap.size (fun _ => True) v1_ (cat ll k)) ∧ Aside0 (Below w.heap.size w w1_))
  case atStart => exact ⟨0, rfl, ⟨by omega⟩, ⟨Kd.R_nil _ _ _ _ _⟩, ⟨Below.refl _ _⟩⟩
  case round =>
    obtain ⟨k, rfl, HK, HO, BB⟩ := hrel
    by_cases hk : k < ll.length
    · obtain ⟨go, rfl⟩ : ∃ j, gk = j + 1 := ⟨gk - 1, by have := HK.out; omega⟩
      have hi1 : ((k : Int) < ((ll.length : Nat) : Int)) = True := eq_true (by omega)
      have hi2 : (k < ll.length) = True := eq_true hk
      have hi3 : (0 ≤ (k : Int)) = True := eq_true (by omega)
      have u1 : wrap64 ((k : Int) + 1) = ((k + 1 : Nat) : Int) := by have := Hhl.out; unfold wrap64; omega
      obtain ⟨i2, hi2'⟩ : ∃ x : Nat, x = k + 1 := ⟨_, rfl⟩
      rw [← hi2'] at u1
      have HI2 := Aside0.mk hi2'
      obtain ⟨ad, rfl, hx_⟩ : ∃ ad, A = some ad ∧ True := by obtain ⟨ad, e, _⟩ := Hhr.out.2.2 (by omega); exact ⟨ad, e, trivial⟩
      obtain ⟨Ai, ci, hcell, hle_, hC_⟩ := rows_get (Kd.C_below Hhr.out BB.out) k hk
      have hm := tot_mono ll (k + 1) (ll.length - (k + 1))
      rw [show k + 1 + (ll.length - (k + 1)) = ll.length by omega] at hm
      have ht1 : (cat ll k).length + (ll.getD k []).length ≤ 1000000000 := by have := Hht.out; rw [tot] at hm; rw [cat_length]; omega
      obtain ⟨x_, hx⟩ : ∃ x : List Int, x = ll.getD k [] := ⟨_, rfl⟩
      have HCT := Aside0.mk (show cat ll (k + 1) = cat ll k ++ x_ by rw [hx]; rfl)
      rw [← hx] at hcell hC_ ht1 hle_
      have HC := Aside0.mk hC_
      have HT1 := Aside0.mk ht1
      clear hx_ hm hx hC_ ht1 hk hi2' hle_
      go_wp2_with (first | ((with_reducible refine gate_builtin (b := .append) (xs := #[.tmp 52, .tmp 56]) rfl ?_); at_builtin; refine Kd.R_append_rows (Kd.int .u8) (w0 := w) w.heap.size rfl (.tmp 52) (.tmp 56) 26 5 (.int .u8 0) 1 rfl Tryd.underlying26 info5p rfl (by decide) (by omega) _ (cat ll k) x_ _ _ _ (fun _ => True) (fun _ => False) rfl rfl ?aO ?aR (fun _ _ h => h) (fun _ h => h.elim) ?aF ?aB ?aS ?aL ?_; (case aR => exact HC.out); (case aB => exact BB.out); (case aF => exact (fun _ _ => trivial)); (case aO => exact HO.out); (case aS => exact below_size BB.out); (case aL => have := HT1.out; omega); intro v4_ w4_ ho hb hg hat; have HO4 := Aside0.mk ho; have B4 := Aside0.mk hb; clear ho hb hg hat HO BB hcell))
      go_roundg go
      case measure => have := HK.out; omega
      case rel => exact ⟨i2, (by first | rfl | rw [u1]), ⟨by have := HK.out; have := HI2.out; omega⟩, ⟨by rw [HI2.out, HCT.out]; exact HO4.out⟩, B4⟩
    · have HKE := Aside0.mk (show k = ll.length by have := HK.out; omega)
      have hi1 : ((k : Int) < ((ll.length : Nat) : Int)) = False := eq_false (by omega)
      have hi2 : (k < ll.length) = False := eq_false hk
      clear hk
      obtain ⟨wf, rfl⟩ : ∃ x : World, x = wr := ⟨_, rfl⟩
      obtain ⟨ra, ca, rfl, hle_, hC_⟩ := Kd.R_reads HO.out
      rw [HKE.out] at hC_
      have hal : (cat ll k).length = tot ll ll.length := by rw [HKE.out, cat_length]
      obtain ⟨T, hT_⟩ : ∃ T, T = tot ll ll.length := ⟨_, rfl⟩
      rw [hal, ← hT_]
      rw [cat_length, ← hT_] at hC_
      have HTT := Aside0.mk hT_
      have RA := Aside0.mk hC_
      clear hC_ hle_ HO HK HKE hal hT_
      go_wp2_with fail
      refine (Hh1.out wf (HhT.out.at BB.out) BB.out).mono ?_
      rintro e w101 ⟨rfl, hb_⟩
      have B102 := Aside0.mk (below_step BB.out hb_)
      have B103 := Aside0.mk (hb_)
      clear hb_ BB
      go_wp2_with (first | ((with_reducible refine gate_dst (N := 11) rfl ?_); refine box_event ?hg (N := 11) ?hd (cs := #[.int .u8 0, .int .u8 0, .int .u8 0, .int .u8 0, .int .u8 0, .int .u8 0, .int .u8 0, .int .u8 0, .int .u8 0, .int .u8 0, .int .u8 0, .int .u8 0, .int .u8 0, .int .u8 0, .int .u8 0, .int .u8 0, .int .u8 0, .int .u8 0, .int .u8 0, .int .u8 0]) (t := 23) ?hr ?_; (case hd => rfl); (case hg => rfl); (case hr => first | (go_simp; done) | (go_simp; rfl)); intro g104 hgg104 w105 hhg104 hbg104; have H110 := Aside0.mk hhg104; have G106 : w.heap.size ≤ g104 := Nat.le_trans B102.out.size (Nat.le_of_eq hgg104.symm); have G107 : wf.heap.size ≤ g104 := Nat.le_trans B103.out.size (Nat.le_of_eq hgg104.symm); have B108 := Aside0.mk (below_step B102.out hbg104); have B109 := Aside0.mk (below_step B103.out hbg104); clear hgg104 hhg104 hbg104 B102 B103) | ((with_reducible refine gate_store (t := 23) (p := _) rfl ?_); refine storeN_event (T := 23) rfl rfl rfl rfl rfl (storeVar_blk H110.out 23 0 [.int .u8 (x 0), .int .u8 (x 1), .int .u8 (x 2), .int .u8 (x 3), .int .u8 (x 4), .int .u8 (x 5), .int .u8 (x 6), .int .u8 (x 7), .int .u8 (x 8), .int .u8 (x 9), .int .u8 (x 10), .int .u8 (x 11), .int .u8 (x 12), .int .u8 (x 13), .int .u8 (x 14), .int .u8 (x 15), .int .u8 (x 16), .int .u8 (x 17), .int .u8 (x 18), .int .u8 (x 19)] (by kernel_rfl) rfl (by simp)) ?_; have H112 := Aside0.mk (show (World.setCells w105 g104 0 [.int .u8 (x 0), .int .u8 (x 1), .int .u8 (x 2), .int .u8 (x 3), .int .u8 (x 4), .int .u8 (x 5), .int .u8 (x 6), .int .u8 (x 7), .int .u8 (x 8), .int .u8 (x 9), .int .u8 (x 10), .int .u8 (x 11), .int .u8 (x 12), .int .u8 (x 13), .int .u8 (x 14), .int .u8 (x 15), .int .u8 (x 16), .int .u8 (x 17), .int .u8 (x 18), .int .u8 (x 19)]).heap[g104]? = some (.cells #[.int .u8 (x 0), .int .u8 (x 1), .int .u8 (x 2), .int .u8 (x 3), .int .u8 (x 4), .int .u8 (x 5), .int .u8 (x 6), .int .u8 (x 7), .int .u8 (x 8), .int .u8 (x 9), .int .u8 (x 10), .int .u8 (x 11), .int .u8 (x 12), .int .u8 (x 13), .int .u8 (x 14), .int .u8 (x 15), .int .u8 (x 16), .int .u8 (x 17), .int .u8 (x 18), .int .u8 (x 19)] 23 (0, 0)) from blk_setCells [] [.int .u8 (x 0), .int .u8 (x 1), .int .u8 (x 2), .int .u8 (x 3), .int .u8 (x 4), .int .u8 (x 5), .int .u8 (x 6), .int .u8 (x 7), .int .u8 (x 8), .int .u8 (x 9), .int .u8 (x 10), .int .u8 (x 11), .int .u8 (x 12), .int .u8 (x 13), .int .u8 (x 14), .int .u8 (x 15), .int .u8 (x 16), .int .u8 (x 17), .int .u8 (x 18), .int .u8 (x 19)] [.int .u8 0, .int .u8 0, .int .u8 0, .int .u8 0, .int .u8 0, .int .u8 0, .int .u8 0, .int .u8 0, .int .u8 0, .int .u8 0, .int .u8 0, .int .u8 0, .int .u8 0, .int .u8 0, .int .u8 0, .int .u8 0, .int .u8 0, .int .u8 0, .int .u8 0, .int .u8 0] [] w105 rfl H110.out); have B113 := Aside0.mk (below_setCells G106 [.int .u8 (x 0), .int .u8 (x 1), .int .u8 (x 2), .int .u8 (x 3), .int .u8 (x 4), .int .u8 (x 5), .int .u8 (x 6), .int .u8 (x 7), .int .u8 (x 8), .int .u8 (x 9), .int .u8 (x 10), .int .u8 (x 11), .int .u8 (x 12), .int .u8 (x 13), .int .u8 (x 14), .int .u8 (x 15), .int .u8 (x 16), .int .u8 (x 17), .int .u8 (x 18), .int .u8 (x 19)] 0 w105 B108.out); have B114 := Aside0.mk (below_setCells G107 [.int .u8 (x 0), .int .u8 (x 1), .int .u8 (x 2), .int .u8 (x 3), .int .u8 (x 4), .int .u8 (x 5), .int .u8 (x 6), .int .u8 (x 7), .int .u8 (x 8), .int .u8 (x 9), .int .u8 (x 10), .int .u8 (x 11), .int .u8 (x 12), .int .u8 (x 13), .int .u8 (x 14), .int .u8 (x 15), .int .u8 (x 16), .int .u8 (x 17), .int .u8 (x 18), .int .u8 (x 19)] 0 w105 B109.out); clear H110 B108 B109; generalize World.setCells w105 g104 0 [.int .u8 (x 0), .int .u8 (x 1), .int .u8 (x 2), .int .u8 (x 3), .int .u8 (x 4), .int .u8 (x 5), .int .u8 (x 6), .int .u8 (x 7), .int .u8 (x 8), .int .u8 (x 9), .int .u8 (x 10), .int .u8 (x 11), .int .u8 (x 12), .int .u8 (x 13), .int .u8 (x 14), .int .u8 (x 15), .int .u8 (x 16), .int .u8 (x 17), .int .u8 (x 18), .int .u8 (x 19)] = w111 at H112 B113 B114 ⊢; generalize Value.tuple #[.agg #[.int .u8 (x 0), .int .u8 (x 1), .int .u8 (x 2), .int .u8 (x 3), .int .u8 (x 4), .int .u8 (x 5), .int .u8 (x 6), .int .u8 (x 7), .int .u8 (x 8), .int .u8 (x 9), .int .u8 (x 10), .int .u8 (x 11), .int .u8 (x 12), .int .u8 (x 13), .int .u8 (x 14), .int .u8 (x 15), .int .u8 (x 16), .int .u8 (x 17), .int .u8 (x 18), .int .u8 (x 19)], .int .i64 eb] = V115; generalize Value.agg #[.int .u8 (x 0), .int .u8 (x 1), .int .u8 (x 2), .int .u8 (x 3), .int .u8 (x 4), .int .u8 (x 5), .int .u8 (x 6), .int .u8 (x 7), .int .u8 (x 8), .int .u8 (x 9), .int .u8 (x 10), .int .u8 (x 11), .int .u8 (x 12), .int .u8 (x 13), .int .u8 (x 14), .int .u8 (x 15), .int .u8 (x 16), .int .u8 (x 17), .int .u8 (x 18), .int .u8 (x 19)] = V116))
      refine (Hh2.out w111 (HhT.out.at B113.out) B113.out).mono ?_
      rintro e w117 ⟨rfl, hb_⟩
      have B118 := Aside0.mk (below_step B113.out hb_)
      have B119 := Aside0.mk (below_step B114.out hb_)
      have H120 := Aside0.mk (blk_below H112.out hb_)
      clear hb_ B113 B114 H112
      go_wp2_with (first | ((with_reducible refine gate_dst (N := 13) rfl ?_); refine box_event ?hg (N := 13) ?hd (cs := #[.int .u8 0, .int .u8 0, .int .u8 0, .int .u8 0, .int .u8 0, .int .u8 0, .int .u8 0, .int .u8 0, .int .u8 0, .int .u8 0, .int .u8 0, .int .u8 0, .int .u8 0, .int .u8 0, .int .u8 0, .int .u8 0, .int .u8 0, .int .u8 0, .int .u8 0, .int .u8 0]) (t := 23) ?hr ?_; (case hd => rfl); (case hg => rfl); (case hr => first | (go_simp; done) | (go_simp; rfl)); intro g121 hgg121 w122 hhg121 hbg121; have H129 := Aside0.mk hhg121; have N123 : g104 ≠ g121 := Nat.ne_of_lt (Nat.lt_of_lt_of_eq (blk_lt H120.out) hgg121.symm); have G124 : w.heap.size ≤ g121 := Nat.le_trans B118.out.size (Nat.le_of_eq hgg121.symm); have G125 : wf.heap.size ≤ g121 := Nat.le_trans B119.out.size (Nat.le_of_eq hgg121.symm); have B126 := Aside0.mk (below_step B118.out hbg121); have B127 := Aside0.mk (below_step B119.out hbg121); have H128 := Aside0.mk (blk_below H120.out hbg121); clear hgg121 hhg121 hbg121 B118 B119 H120) | ((with_reducible refine gate_store (t := 23) (p := _) rfl ?_); refine storeN_event (T := 23) rfl rfl rfl rfl rfl (storeVar_blk H129.out 23 0 [.int .u8 (x 0), .int .u8 (x 1), .int .u8 (x 2), .int .u8 (x 3), .int .u8 (x 4), .int .u8 (x 5), .int .u8 (x 6), .int .u8 (x 7), .int .u8 (x 8), .int .u8 (x 9), .int .u8 (x 10), .int .u8 (x 11), .int .u8 (x 12), .int .u8 (x 13), .int .u8 (x 14), .int .u8 (x 15), .int .u8 (x 16), .int .u8 (x 17), .int .u8 (x 18), .int .u8 (x 19)] (by kernel_rfl) rfl (by simp)) ?_; have H131 := Aside0.mk (show (World.setCells w122 g121 0 [.int .u8 (x 0), .int .u8 (x 1), .int .u8 (x 2), .int .u8 (x 3), .int .u8 (x 4), .int .u8 (x 5), .int .u8 (x 6), .int .u8 (x 7), .int .u8 (x 8), .int .u8 (x 9), .int .u8 (x 10), .int .u8 (x 11), .int .u8 (x 12), .int .u8 (x 13), .int .u8 (x 14), .int .u8 (x 15), .int .u8 (x 16), .int .u8 (x 17), .int .u8 (x 18), .int .u8 (x 19)]).heap[g121]? = some (.cells #[.int .u8 (x 0), .int .u8 (x 1), .int .u8 (x 2), .int .u8 (x 3), .int .u8 (x 4), .int .u8 (x 5), .int .u8 (x 6), .int .u8 (x 7), .int .u8 (x 8), .int .u8 (x 9), .int .u8 (x 10), .int .u8 (x 11), .int .u8 (x 12), .int .u8 (x 13), .int .u8 (x 14), .int .u8 (x 15), .int .u8 (x 16), .int .u8 (x 17), .int .u8 (x 18), .int .u8 (x 19)] 23 (0, 0)) from blk_setCells [] [.int .u8 (x 0), .int .u8 (x 1), .int .u8 (x 2), .int .u8 (x 3), .int .u8 (x 4), .int .u8 (x 5), .int .u8 (x 6), .int .u8 (x 7), .int .u8 (x 8), .int .u8 (x 9), .int .u8 (x 10), .int .u8 (x 11), .int .u8 (x 12), .int .u8 (x 13), .int .u8 (x 14), .int .u8 (x 15), .int .u8 (x 16), .int .u8 (x 17), .int .u8 (x 18), .int .u8 (x 19)] [.int .u8 0, .int .u8 0, .int .u8 0, .int .u8 0, .int .u8 0, .int .u8 0, .int .u8 0, .int .u8 0, .int .u8 0, .int .u8 0, .int .u8 0, .int .u8 0, .int .u8 0, .int .u8 0, .int .u8 0, .int .u8 0, .int .u8 0, .int .u8 0, .int .u8 0, .int .u8 0] [] w122 rfl H129.out); have H132 := Aside0.mk (far_setCells N123 [.int .u8 (x 0), .int .u8 (x 1), .int .u8 (x 2), .int .u8 (x 3), .int .u8 (x 4), .int .u8 (x 5), .int .u8 (x 6), .int .u8 (x 7), .int .u8 (x 8), .int .u8 (x 9), .int .u8 (x 10), .int .u8 (x 11), .int .u8 (x 12), .int .u8 (x 13), .int .u8 (x 14), .int .u8 (x 15), .int .u8 (x 16), .int .u8 (x 17), .int .u8 (x 18), .int .u8 (x 19)] 0 w122 H128.out); have B133 := Aside0.mk (below_setCells G124 [.int .u8 (x 0), .int .u8 (x 1), .int .u8 (x 2), .int .u8 (x 3), .int .u8 (x 4), .int .u8 (x 5), .int .u8 (x 6), .int .u8 (x 7), .int .u8 (x 8), .int .u8 (x 9), .int .u8 (x 10), .int .u8 (x 11), .int .u8 (x 12), .int .u8 (x 13), .int .u8 (x 14), .int .u8 (x 15), .int .u8 (x 16), .int .u8 (x 17), .int .u8 (x 18), .int .u8 (x 19)] 0 w122 B126.out); have B134 := Aside0.mk (below_setCells G125 [.int .u8 (x 0), .int .u8 (x 1), .int .u8 (x 2), .int .u8 (x 3), .int .u8 (x 4), .int .u8 (x 5), .int .u8 (x 6), .int .u8 (x 7), .int .u8 (x 8), .int .u8 (x 9), .int .u8 (x 10), .int .u8 (x 11), .int .u8 (x 12), .int .u8 (x 13), .int .u8 (x 14), .int .u8 (x 15), .int .u8 (x 16), .int .u8 (x 17), .int .u8 (x 18), .int .u8 (x 19)] 0 w122 B127.out); clear H129 H128 B126 B127; generalize World.setCells w122 g121 0 [.int .u8 (x 0), .int .u8 (x 1), .int .u8 (x 2), .int .u8 (x 3), .int .u8 (x 4), .int .u8 (x 5), .int .u8 (x 6), .int .u8 (x 7), .int .u8 (x 8), .int .u8 (x 9), .int .u8 (x 10), .int .u8 (x 11), .int .u8 (x 12), .int .u8 (x 13), .int .u8 (x 14), .int .u8 (x 15), .int .u8 (x 16), .int .u8 (x 17), .int .u8 (x 18), .int .u8 (x 19)] = w130 at H132 H131 B133 B134 ⊢; generalize Value.tuple #[.agg #[.int .u8 (x 0), .int .u8 (x 1), .int .u8 (x 2), .int .u8 (x 3), .int .u8 (x 4), .int .u8 (x 5), .int .u8 (x 6), .int .u8 (x 7), .int .u8 (x 8), .int .u8 (x 9), .int .u8 (x 10), .int .u8 (x 11), .int .u8 (x 12), .int .u8 (x 13), .int .u8 (x 14), .int .u8 (x 15), .int .u8 (x 16), .int .u8 (x 17), .int .u8 (x 18), .int .u8 (x 19)], .int .i64 eb] = V135; generalize Value.agg #[.int .u8 (x 0), .int .u8 (x 1), .int .u8 (x 2), .int .u8 (x 3), .int .u8 (x 4), .int .u8 (x 5), .int .u8 (x 6), .int .u8 (x 7), .int .u8 (x 8), .int .u8 (x 9), .int .u8 (x 10), .int .u8 (x 11), .int .u8 (x 12), .int .u8 (x 13), .int .u8 (x 14), .int .u8 (x 15), .int .u8 (x 16), .int .u8 (x 17), .int .u8 (x 18), .int .u8 (x 19)] = V136))
      refine (Hh3.out w130 (HhT.out.at B133.out) B133.out).mono ?_
      rintro e w137 ⟨rfl, hb_⟩
      have B138 := Aside0.mk (below_step B133.out hb_)
      have B139 := Aside0.mk (below_step B134.out hb_)
      have H140 := Aside0.mk (blk_below H132.out hb_)
      have H141 := Aside0.mk (blk_below H131.out hb_)
      clear hb_ B133 B134 H132 H131
      go_wp2_with (first | ((with_reducible refine gate_dst (N := 15) rfl ?_); refine box_event ?hg (N := 15) ?hd (cs := #[.int .u8 0, .int .u8 0, .int .u8 0, .int .u8 0, .int .u8 0, .int .u8 0, .int .u8 0, .int .u8 0, .int .u8 0, .int .u8 0, .int .u8 0, .int .u8 0, .int .u8 0, .int .u8 0, .int .u8 0, .int .u8 0, .int .u8 0, .int .u8 0, .int .u8 0, .int .u8 0]) (t := 23) ?hr ?_; (case hd => rfl); (case hg => rfl); (case hr => first | (go_simp; done) | (go_simp; rfl)); intro g142 hgg142 w143 hhg142 hbg142; have H152 := Aside0.mk hhg142; have N144 : g104 ≠ g142 := Nat.ne_of_lt (Nat.lt_of_lt_of_eq (blk_lt H140.out) hgg142.symm); have N145 : g121 ≠ g142 := Nat.ne_of_lt (Nat.lt_of_lt_of_eq (blk_lt H141.out) hgg142.symm); have G146 : w.heap.size ≤ g142 := Nat.le_trans B138.out.size (Nat.le_of_eq hgg142.symm); have G147 : wf.heap.size ≤ g142 := Nat.le_trans B139.out.size (Nat.le_of_eq hgg142.symm); have B148 := Aside0.mk (below_step B138.out hbg142); have B149 := Aside0.mk (below_step B139.out hbg142); have H150 := Aside0.mk (blk_below H140.out hbg142); have H151 := Aside0.mk (blk_below H141.out hbg142); clear hgg142 hhg142 hbg142 B138 B139 H140 H141) | ((with_reducible refine gate_store (t := 23) (p := _) rfl ?_); refine storeN_event (T := 23) rfl rfl rfl rfl rfl (storeVar_blk H152.out 23 0 [.int .u8 (y 0), .int .u8 (y 1), .int .u8 (y 2), .int .u8 (y 3), .int .u8 (y 4), .int .u8 (y 5), .int .u8 (y 6), .int .u8 (y 7), .int .u8 (y 8), .int .u8 (y 9), .int .u8 (y 10), .int .u8 (y 11), .int .u8 (y 12), .int .u8 (y 13), .int .u8 (y 14), .int .u8 (y 15), .int .u8 (y 16), .int .u8 (y 17), .int .u8 (y 18), .int .u8 (y 19)] (by kernel_rfl) rfl (by simp)) ?_; have H154 := Aside0.mk (show (World.setCells w143 g142 0 [.int .u8 (y 0), .int .u8 (y 1), .int .u8 (y 2), .int .u8 (y 3), .int .u8 (y 4), .int .u8 (y 5), .int .u8 (y 6), .int .u8 (y 7), .int .u8 (y 8), .int .u8 (y 9), .int .u8 (y 10), .int .u8 (y 11), .int .u8 (y 12), .int .u8 (y 13), .int .u8 (y 14), .int .u8 (y 15), .int .u8 (y 16), .int .u8 (y 17), .int .u8 (y 18), .int .u8 (y 19)]).heap[g142]? = some (.cells #[.int .u8 (y 0), .int .u8 (y 1), .int .u8 (y 2), .int .u8 (y 3), .int .u8 (y 4), .int .u8 (y 5), .int .u8 (y 6), .int .u8 (y 7), .int .u8 (y 8), .int .u8 (y 9), .int .u8 (y 10), .int .u8 (y 11), .int .u8 (y 12), .int .u8 (y 13), .int .u8 (y 14), .int .u8 (y 15), .int .u8 (y 16), .int .u8 (y 17), .int .u8 (y 18), .int .u8 (y 19)] 23 (0, 0)) from blk_setCells [] [.int .u8 (y 0), .int .u8 (y 1), .int .u8 (y 2), .int .u8 (y 3), .int .u8 (y 4), .int .u8 (y 5), .int .u8 (y 6), .int .u8 (y 7), .int .u8 (y 8), .int .u8 (y 9), .int .u8 (y 10), .int .u8 (y 11), .int .u8 (y 12), .int .u8 (y 13), .int .u8 (y 14), .int .u8 (y 15), .int .u8 (y 16), .int .u8 (y 17), .int .u8 (y 18), .int .u8 (y 19)] [.int .u8 0, .int .u8 0, .int .u8 0, .int .u8 0, .int .u8 0, .int .u8 0, .int .u8 0, .int .u8 0, .int .u8 0, .int .u8 0, .int .u8 0, .int .u8 0, .int .u8 0, .int .u8 0, .int .u8 0, .int .u8 0, .int .u8 0, .int .u8 0, .int .u8 0, .int .u8 0] [] w143 rfl H152.out); have H155 := Aside0.mk (far_setCells N144 [.int .u8 (y 0), .int .u8 (y 1), .int .u8 (y 2), .int .u8 (y 3), .int .u8 (y 4), .int .u8 (y 5), .int .u8 (y 6), .int .u8 (y 7), .int .u8 (y 8), .int .u8 (y 9), .int .u8 (y 10), .int .u8 (y 11), .int .u8 (y 12), .int .u8 (y 13), .int .u8 (y 14), .int .u8 (y 15), .int .u8 (y 16), .int .u8 (y 17), .int .u8 (y 18), .int .u8 (y 19)] 0 w143 H150.out); have H156 := Aside0.mk (far_setCells N145 [.int .u8 (y 0), .int .u8 (y 1), .int .u8 (y 2), .int .u8 (y 3), .int .u8 (y 4), .int .u8 (y 5), .int .u8 (y 6), .int .u8 (y 7), .int .u8 (y 8), .int .u8 (y 9), .int .u8 (y 10), .int .u8 (y 11), .int .u8 (y 12), .int .u8 (y 13), .int .u8 (y 14), .int .u8 (y 15), .int .u8 (y 16), .int .u8 (y 17), .int .u8 (y 18), .int .u8 (y 19)] 0 w143 H151.out); have B157 := Aside0.mk (below_setCells G146 [.int .u8 (y 0), .int .u8 (y 1), .int .u8 (y 2), .int .u8 (y 3), .int .u8 (y 4), .int .u8 (y 5), .int .u8 (y 6), .int .u8 (y 7), .int .u8 (y 8), .int .u8 (y 9), .int .u8 (y 10), .int .u8 (y 11), .int .u8 (y 12), .int .u8 (y 13), .int .u8 (y 14), .int .u8 (y 15), .int .u8 (y 16), .int .u8 (y 17), .int .u8 (y 18), .int .u8 (y 19)] 0 w143 B148.out); have B158 := Aside0.mk (below_setCells G147 [.int .u8 (y 0), .int .u8 (y 1), .int .u8 (y 2), .int .u8 (y 3), .int .u8 (y 4), .int .u8 (y 5), .int .u8 (y 6), .int .u8 (y 7), .int .u8 (y 8), .int .u8 (y 9), .int .u8 (y 10), .int .u8 (y 11), .int .u8 (y 12), .int .u8 (y 13), .int .u8 (y 14), .int .u8 (y 15), .int .u8 (y 16), .int .u8 (y 17), .int .u8 (y 18), .int .u8 (y 19)] 0 w143 B149.out); clear H152 H150 H151 B148 B149; generalize World.setCells w143 g142 0 [.int .u8 (y 0), .int .u8 (y 1), .int .u8 (y 2), .int .u8 (y 3), .int .u8 (y 4), .int .u8 (y 5), .int .u8 (y 6), .int .u8 (y 7), .int .u8 (y 8), .int .u8 (y 9), .int .u8 (y 10), .int .u8 (y 11), .int .u8 (y 12), .int .u8 (y 13), .int .u8 (y 14), .int .u8 (y 15), .int .u8 (y 16), .int .u8 (y 17), .int .u8 (y 18), .int .u8 (y 19)] = w153 at H155 H156 H154 B157 B158 ⊢; generalize Value.tuple #[.agg #[.int .u8 (y 0), .int .u8 (y 1), .int .u8 (y 2), .int .u8 (y 3), .int .u8 (y 4), .int .u8 (y 5), .int .u8 (y 6), .int .u8 (y 7), .int .u8 (y 8), .int .u8 (y 9), .int .u8 (y 10), .int .u8 (y 11), .int .u8 (y 12), .int .u8 (y 13), .int .u8 (y 14), .int .u8 (y 15), .int .u8 (y 16), .int .u8 (y 17), .int .u8 (y 18), .int .u8 (y 19)], .int .i64 er] = V159; generalize Value.agg #[.int .u8 (y 0), .int .u8 (y 1), .int .u8 (y 2), .int .u8 (y 3), .int .u8 (y 4), .int .u8 (y 5), .int .u8 (y 6), .int .u8 (y 7), .int .u8 (y 8), .int .u8 (y 9), .int .u8 (y 10), .int .u8 (y 11), .int .u8 (y 12), .int .u8 (y 13), .int .u8 (y 14), .int .u8 (y 15), .int .u8 (y 16), .int .u8 (y 17), .int .u8 (y 18), .int .u8 (y 19)] = V160))
      refine (Hh4.out w153 (HhT.out.at B157.out) B157.out).mono ?_
      rintro e w161 ⟨rfl, hb_⟩
      have B162 := Aside0.mk (below_step B157.out hb_)
      have B163 := Aside0.mk (below_step B158.out hb_)
      have H164 := Aside0.mk (blk_below H155.out hb_)
      have H165 := Aside0.mk (blk_below H156.out hb_)
      have H166 := Aside0.mk (blk_below H154.out hb_)
      clear hb_ B157 B158 H155 H156 H154
      go_wp2_with (first | ((with_reducible refine gate_dst (N := 17) rfl ?_); refine box_event ?hg (N := 17) ?hd (cs := #[.int .u8 0, .int .u8 0, .int .u8 0, .int .u8 0, .int .u8 0, .int .u8 0, .int .u8 0, .int .u8 0, .int .u8 0, .int .u8 0, .int .u8 0, .int .u8 0, .int .u8 0, .int .u8 0, .int .u8 0, .int .u8 0, .int .u8 0, .int .u8 0, .int .u8 0, .int .u8 0]) (t := 23) ?hr ?_; (case hd => rfl); (case hg => rfl); (case hr => first | (go_simp; done) | (go_simp; rfl)); intro g167 hgg167 w168 hhg167 hbg167; have H179 := Aside0.mk hhg167; have N169 : g104 ≠ g167 := Nat.ne_of_lt (Nat.lt_of_lt_of_eq (blk_lt H164.out) hgg167.symm); have N170 : g121 ≠ g167 := Nat.ne_of_lt (Nat.lt_of_lt_of_eq (blk_lt H165.out) hgg167.symm); have N171 : g142 ≠ g167 := Nat.ne_of_lt (Nat.lt_of_lt_of_eq (blk_lt H166.out) hgg167.symm); have G172 : w.heap.size ≤ g167 := Nat.le_trans B162.out.size (Nat.le_of_eq hgg167.symm); have G173 : wf.heap.size ≤ g167 := Nat.le_trans B163.out.size (Nat.le_of_eq hgg167.symm); have B174 := Aside0.mk (below_step B162.out hbg167); have B175 := Aside0.mk (below_step B163.out hbg167); have H176 := Aside0.mk (blk_below H164.out hbg167); have H177 := Aside0.mk (blk_below H165.out hbg167); have H178 := Aside0.mk (blk_below H166.out hbg167); clear hgg167 hhg167 hbg167 B162 B163 H164 H165 H166) | ((with_reducible refine gate_store (t := 23) (p := _) rfl ?_); refine storeN_event (T := 23) rfl rfl rfl rfl rfl (storeVar_blk H179.out 23 0 [.int .u8 (y 0), .int .u8 (y 1), .int .u8 (y 2), .int .u8 (y 3), .int .u8 (y 4), .int .u8 (y 5), .int .u8 (y 6), .int .u8 (y 7), .int .u8 (y 8), .int .u8 (y 9), .int .u8 (y 10), .int .u8 (y 11), .int .u8 (y 12), .int .u8 (y 13), .int .u8 (y 14), .int .u8 (y 15), .int .u8 (y 16), .int .u8 (y 17), .int .u8 (y 18), .int .u8 (y 19)] (by kernel_rfl) rfl (by simp)) ?_; have H181 := Aside0.mk (show (World.setCells w168 g167 0 [.int .u8 (y 0), .int .u8 (y 1), .int .u8 (y 2), .int .u8 (y 3), .int .u8 (y 4), .int .u8 (y 5), .int .u8 (y 6), .int .u8 (y 7), .int .u8 (y 8), .int .u8 (y 9), .int .u8 (y 10), .int .u8 (y 11), .int .u8 (y 12), .int .u8 (y 13), .int .u8 (y 14), .int .u8 (y 15), .int .u8 (y 16), .int .u8 (y 17), .int .u8 (y 18), .int .u8 (y 19)]).heap[g167]? = some (.cells #[.int .u8 (y 0), .int .u8 (y 1), .int .u8 (y 2), .int .u8 (y 3), .int .u8 (y 4), .int .u8 (y 5), .int .u8 (y 6), .int .u8 (y 7), .int .u8 (y 8), .int .u8 (y 9), .int .u8 (y 10), .int .u8 (y 11), .int .u8 (y 12), .int .u8 (y 13), .int .u8 (y 14), .int .u8 (y 15), .int .u8 (y 16), .int .u8 (y 17), .int .u8 (y 18), .int .u8 (y 19)] 23 (0, 0)) from blk_setCells [] [.int .u8 (y 0), .int .u8 (y 1), .int .u8 (y 2), .int .u8 (y 3), .int .u8 (y 4), .int .u8 (y 5), .int .u8 (y 6), .int .u8 (y 7), .int .u8 (y 8), .int .u8 (y 9), .int .u8 (y 10), .int .u8 (y 11), .int .u8 (y 12), .int .u8 (y 13), .int .u8 (y 14), .int .u8 (y 15), .int .u8 (y 16), .int .u8 (y 17), .int .u8 (y 18), .int .u8 (y 19)] [.int .u8 0, .int .u8 0, .int .u8 0, .int .u8 0, .int .u8 0, .int .u8 0, .int .u8 0, .int .u8 0, .int .u8 0, .int .u8 0, .int .u8 0, .int .u8 0, .int .u8 0, .int .u8 0, .int .u8 0, .int .u8 0, .int .u8 0, .int .u8 0, .int .u8 0, .int .u8 0] [] w168 rfl H179.out); have H182 := Aside0.mk (far_setCells N169 [.int .u8 (y 0), .int .u8 (y 1), .int .u8 (y 2), .int .u8 (y 3), .int .u8 (y 4), .int .u8 (y 5), .int .u8 (y 6), .int .u8 (y 7), .int .u8 (y 8), .int .u8 (y 9), .int .u8 (y 10), .int .u8 (y 11), .int .u8 (y 12), .int .u8 (y 13), .int .u8 (y 14), .int .u8 (y 15), .int .u8 (y 16), .int .u8 (y 17), .int .u8 (y 18), .int .u8 (y 19)] 0 w168 H176.out); have H183 := Aside0.mk (far_setCells N170 [.int .u8 (y 0), .int .u8 (y 1), .int .u8 (y 2), .int .u8 (y 3), .int .u8 (y 4), .int .u8 (y 5), .int .u8 (y 6), .int .u8 (y 7), .int .u8 (y 8), .int .u8 (y 9), .int .u8 (y 10), .int .u8 (y 11), .int .u8 (y 12), .int .u8 (y 13), .int .u8 (y 14), .int .u8 (y 15), .int .u8 (y 16), .int .u8 (y 17), .int .u8 (y 18), .int .u8 (y 19)] 0 w168 H177.out); have H184 := Aside0.mk (far_setCells N171 [.int .u8 (y 0), .int .u8 (y 1), .int .u8 (y 2), .int .u8 (y 3), .int .u8 (y 4), .int .u8 (y 5), .int .u8 (y 6), .int .u8 (y 7), .int .u8 (y 8), .int .u8 (y 9), .int .u8 (y 10), .int .u8 (y 11), .int .u8 (y 12), .int .u8 (y 13), .int .u8 (y 14), .int .u8 (y 15), .int .u8 (y 16), .int .u8 (y 17), .int .u8 (y 18), .int .u8 (y 19)] 0 w168 H178.out); have B185 := Aside0.mk (below_setCells G172 [.int .u8 (y 0), .int .u8 (y 1), .int .u8 (y 2), .int .u8 (y 3), .int .u8 (y 4), .int .u8 (y 5), .int .u8 (y 6), .int .u8 (y 7), .int .u8 (y 8), .int .u8 (y 9), .int .u8 (y 10), .int .u8 (y 11), .int .u8 (y 12), .int .u8 (y 13), .int .u8 (y 14), .int .u8 (y 15), .int .u8 (y 16), .int .u8 (y 17), .int .u8 (y 18), .int .u8 (y 19)] 0 w168 B174.out); have B186 := Aside0.mk (below_setCells G173 [.int .u8 (y 0), .int .u8 (y 1), .int .u8 (y 2), .int .u8 (y 3), .int .u8 (y 4), .int .u8 (y 5), .int .u8 (y 6), .int .u8 (y 7), .int .u8 (y 8), .int .u8 (y 9), .int .u8 (y 10), .int .u8 (y 11), .int .u8 (y 12), .int .u8 (y 13), .int .u8 (y 14), .int .u8 (y 15), .int .u8 (y 16), .int .u8 (y 17), .int .u8 (y 18), .int .u8 (y 19)] 0 w168 B175.out); clear H179 H176 H177 H178 B174 B175; generalize World.setCells w168 g167 0 [.int .u8 (y 0), .int .u8 (y 1), .int .u8 (y 2), .int .u8 (y 3), .int .u8 (y 4), .int .u8 (y 5), .int .u8 (y 6), .int .u8 (y 7), .int .u8 (y 8), .int .u8 (y 9), .int .u8 (y 10), .int .u8 (y 11), .int .u8 (y 12), .int .u8 (y 13), .int .u8 (y 14), .int .u8 (y 15), .int .u8 (y 16), .int .u8 (y 17), .int .u8 (y 18), .int .u8 (y 19)] = w180 at H182 H183 H184 H181 B185 B186 ⊢; generalize Value.tuple #[.agg #[.int .u8 (y 0), .int .u8 (y 1), .int .u8 (y 2), .int .u8 (y 3), .int .u8 (y 4), .int .u8 (y 5), .int .u8 (y 6), .int .u8 (y 7), .int .u8 (y 8), .int .u8 (y 9), .int .u8 (y 10), .int .u8 (y 11), .int .u8 (y 12), .int .u8 (y 13), .int .u8 (y 14), .int .u8 (y 15), .int .u8 (y 16), .int .u8 (y 17), .int .u8 (y 18), .int .u8 (y 19)], .int .i64 er] = V187; generalize Value.agg #[.int .u8 (y 0), .int .u8 (y 1), .int .u8 (y 2), .int .u8 (y 3), .int .u8 (y 4), .int .u8 (y 5), .int .u8 (y 6), .int .u8 (y 7), .int .u8 (y 8), .int .u8 (y 9), .int .u8 (y 10), .int .u8 (y 11), .int .u8 (y 12), .int .u8 (y 13), .int .u8 (y 14), .int .u8 (y 15), .int .u8 (y 16), .int .u8 (y 17), .int .u8 (y 18), .int .u8 (y 19)] = V188))
      refine (Hh5.out w180 (HhT.out.at B185.out) B185.out).mono ?_
      rintro e w189 ⟨vp_, rfl, hR_, hb_⟩
      have B190 := Aside0.mk (below_step B185.out hb_)
      have B191 := Aside0.mk (below_step B186.out hb_)
      have H192 := Aside0.mk (blk_below H182.out hb_)
      have H193 := Aside0.mk (blk_below H183.out hb_)
      have H194 := Aside0.mk (blk_below H184.out hb_)
      have H195 := Aside0.mk (blk_below H181.out hb_)
      clear hb_ B185 B186 H182 H183 H184 H181
      obtain ⟨rp, cp, rfl, hle_, hC_⟩ := Kd.R_reads hR_
      have RP := Aside0.mk hC_
      clear hC_ hle_ hR_
      go_wp2_with fail
      refine (Hh6.out w189 (HhT.out.at B190.out) B190.out).mono ?_
      rintro e w196 ⟨vo_, rfl, hR_, hb_⟩
      have B197 := Aside0.mk (below_step B190.out hb_)
      have B198 := Aside0.mk (below_step B191.out hb_)
      have B199 := Aside0.mk (hb_)
      have H200 := Aside0.mk (blk_below H192.out hb_)
      have H201 := Aside0.mk (blk_below H193.out hb_)
      have H202 := Aside0.mk (blk_below H194.out hb_)
      have H203 := Aside0.mk (blk_below H195.out hb_)
      clear hb_ B190 B191 H192 H193 H194 H195
      obtain ⟨ro, co, rfl, hle_, hC_⟩ := Kd.R_reads hR_
      have RO := Aside0.mk hC_
      clear hC_ hle_ hR_
      go_wp2_with fail
      refine (Hh7.out w196 (HhT.out.at B197.out) B197.out).mono ?_
      rintro e w204 ⟨rfl, hb_⟩
      have B205 := Aside0.mk (below_step B197.out hb_)
      have B206 := Aside0.mk (below_step B198.out hb_)
      have B207 := Aside0.mk (below_step B199.out hb_)
      have B208 := Aside0.mk (hb_)
      have H209 := Aside0.mk (blk_below H200.out hb_)
      have H210 := Aside0.mk (blk_below H201.out hb_)
      have H211 := Aside0.mk (blk_below H202.out hb_)
      have H212 := Aside0.mk (blk_below H203.out hb_)
      clear hb_ B197 B198 B199 H200 H201 H202 H203
      go_wp2_with fail
      refine (Hh8.out w204 (HhT.out.at B205.out) B205.out).mono ?_
      rintro e w213 ⟨rfl, hb_⟩
      have B214 := Aside0.mk (below_step B205.out hb_)
      have B215 := Aside0.mk (below_step B206.out hb_)
      have B216 := Aside0.mk (below_step B207.out hb_)
      have B217 := Aside0.mk (below_step B208.out hb_)
      have H218 := Aside0.mk (blk_below H209.out hb_)
      have H219 := Aside0.mk (blk_below H210.out hb_)
      have H220 := Aside0.mk (blk_below H211.out hb_)
      have H221 := Aside0.mk (blk_below H212.out hb_)
      clear hb_ B205 B206 B207 B208 H209 H210 H211 H212
      go_wp2_with fail
      go_loopg [27, 28] ll.length (fun q_ v1_ v2_ w1_ => ∃ (k : Nat), v2_ = .int .i64 (k : Int) ∧ Aside0 (k + q_ = ll.length) ∧ Aside0 (Kd.R (Kd.int .u8) 5 w1_ w213.heap.size (fun _ => True) v1_ (cat ll k)) ∧ Aside0 (Below w213.heap.size w213 w1_))
      case atStart => exact ⟨0, rfl, ⟨by omega⟩, ⟨Kd.R_nil _ _ _ _ _⟩, ⟨Below.refl _ _⟩⟩
      case round =>
        obtain ⟨k, rfl, HK, HO, BB⟩ := hrel
        by_cases hk : k < ll.length
        · obtain ⟨go, rfl⟩ : ∃ j, gk = j + 1 := ⟨gk - 1, by have := HK.out; omega⟩
          have hi1 : ((k : Int) < ((ll.length : Nat) : Int)) = True := eq_true (by omega)
          have hi2 : (k < ll.length) = True := eq_true hk
          have hi3 : (0 ≤ (k : Int)) = True := eq_true (by omega)
          have u1 : wrap64 ((k : Int) + 1) = ((k + 1 : Nat) : Int) := by have := Hhl.out; unfold wrap64; omega
          obtain ⟨i2, hi2'⟩ : ∃ x : Nat, x = k + 1 := ⟨_, rfl⟩
          rw [← hi2'] at u1
          have HI2 := Aside0.mk hi2'
          obtain ⟨ad, rfl, hx_⟩ : ∃ ad, A = some ad ∧ True := by obtain ⟨ad, e, _⟩ := Hhr.out.2.2 (by omega); exact ⟨ad, e, trivial⟩
          obtain ⟨Ai, ci, hcell, hle_, hC_⟩ := rows_get (Kd.C_below Hhr.out (below_step B214.out BB.out)) k hk
          have hm := tot_mono ll (k + 1) (ll.length - (k + 1))
          rw [show k + 1 + (ll.length - (k + 1)) = ll.length by omega] at hm
          have ht1 : (cat ll k).length + (ll.getD k []).length ≤ 1000000000 := by have := Hht.out; rw [tot] at hm; rw [cat_length]; omega
          obtain ⟨x_, hx⟩ : ∃ x : List Int, x = ll.getD k [] := ⟨_, rfl⟩
          have HCT := Aside0.mk (show cat ll (k + 1) = cat ll k ++ x_ by rw [hx]; rfl)
          rw [← hx] at hcell hC_ ht1 hle_
          have HC := Aside0.mk hC_
          have HT1 := Aside0.mk ht1
          clear hx_ hm hx hC_ ht1 hk hi2' hle_
          go_wp2_with (first | ((with_reducible refine gate_builtin (b := .append) (xs := #[.tmp 108, .tmp 112]) rfl ?_); at_builtin; refine Kd.R_append_rows (Kd.int .u8) (w0 := w213) w213.heap.size rfl (.tmp 108) (.tmp 112) 26 5 (.int .u8 0) 1 rfl Tryd.underlying26 info5p rfl (by decide) (by omega) _ (cat ll k) x_ _ _ _ (fun _ => True) (fun _ => False) rfl rfl ?aO ?aR (fun _ _ h => h) (fun _ h => h.elim) ?aF ?aB ?aS ?aL ?_; (case aR => exact HC.out); (case aB => exact BB.out); (case aF => exact (fun _ _ => trivial)); (case aO => exact HO.out); (case aS => exact below_size BB.out); (case aL => have := HT1.out; omega); intro v4_ w4_ ho hb hg hat; have HO4 := Aside0.mk ho; have B4 := Aside0.mk hb; clear ho hb hg hat HO BB hcell))
          go_roundg go
          case measure => have := HK.out; omega
          case rel => exact ⟨i2, (by first | rfl | rw [u1]), ⟨by have := HK.out; have := HI2.out; omega⟩, ⟨by rw [HI2.out, HCT.out]; exact HO4.out⟩, B4⟩
        · have HKE := Aside0.mk (show k = ll.length by have := HK.out; omega)
          have hi1 : ((k : Int) < ((ll.length : Nat) : Int)) = False := eq_false (by omega)
          have hi2 : (k < ll.length) = False := eq_false hk
          clear hk
          have B322 := Aside0.mk (below_step B214.out BB.out)
          have B323 := Aside0.mk (below_step B215.out BB.out)
          have B324 := Aside0.mk (below_step B216.out BB.out)
          have B325 := Aside0.mk (below_step B217.out BB.out)
          have B326 := Aside0.mk (BB.out)
          have H327 := Aside0.mk (blk_below H218.out BB.out)
          have H328 := Aside0.mk (blk_below H219.out BB.out)
          have H329 := Aside0.mk (blk_below H220.out BB.out)
          have H330 := Aside0.mk (blk_below H221.out BB.out)
          obtain ⟨rb, cbb, rfl, hle_, hC_⟩ := Kd.R_reads HO.out
          rw [HKE.out] at hC_
          have hal : (cat ll k).length = tot ll ll.length := by rw [HKE.out, cat_length]
          rw [hal, ← HTT.out]
          rw [cat_length, ← HTT.out] at hC_
          have RB := Aside0.mk hC_
          clear hC_ hle_ HO HK HKE hal
          go_wp2_with (first | ((with_reducible refine gate_dst (N := 114) rfl ?_); refine loadG_event (T := 23) (by rfl) rfl rfl (run_loadVar_row _ _ _ _ _ (0, 0) _ H327.out Tryd.underlying23 rfl (by kernel_rfl)) ?_) | ((with_reducible refine gate_dst (N := 115) rfl ?_); refine loadG_event (T := 23) (by rfl) rfl rfl (run_loadVar_row _ _ _ _ _ (0, 0) _ H328.out Tryd.underlying23 rfl (by kernel_rfl)) ?_) | ((with_reducible refine gate_dst (N := 123) rfl ?_); refine loadG_event (T := 23) (by rfl) rfl rfl (run_loadVar_row _ _ _ _ _ (0, 0) _ H329.out Tryd.underlying23 rfl (by kernel_rfl)) ?_) | ((with_reducible refine gate_dst (N := 124) rfl ?_); refine loadG_event (T := 23) (by rfl) rfl rfl (run_loadVar_row _ _ _ _ _ (0, 0) _ H330.out Tryd.underlying23 rfl (by kernel_rfl)) ?_))
          refine (same_sums rp ro cp co ps wr (Kd.C_below RP.out B324.out) (Kd.C_below RO.out B325.out) Hhp.out).mono ?_
          rintro e w331 ⟨rfl, hb_⟩
          have B332 := Aside0.mk (below_step B322.out hb_)
          have B333 := Aside0.mk (below_step B323.out hb_)
          have B334 := Aside0.mk (below_step B324.out hb_)
          have B335 := Aside0.mk (below_step B325.out hb_)
          have B336 := Aside0.mk (below_step B326.out hb_)
          have B337 := Aside0.mk (hb_)
          have H338 := Aside0.mk (blk_below H327.out hb_)
          have H339 := Aside0.mk (blk_below H328.out hb_)
          have H340 := Aside0.mk (blk_below H329.out hb_)
          have H341 := Aside0.mk (blk_below H330.out hb_)
          clear hb_ B322 B323 B324 B325 B326 H327 H328 H329 H330
          have cv1 := conv_of (c := ca) (Kd.C_below RA.out B333.out)
          have cv2 := conv_of (c := cbb) (Kd.C_below RB.out B337.out)
          go_wp2_with fail
          go_ret
          exact ⟨rfl, B332.out⟩
end Go.Proofs.YtbldecdipicddaaDoor.Hand
