/- The walks of the law TreeShows. Written by wip/s1/mkshows.py. -/
import Derived.Test.YtbldecdipicddaaDoorHFit
import Derived.Test.YtbldecdipicddaaDoorOwnPut
set_option linter.unusedSimpArgs false
set_option linter.unusedVariables false
namespace Go.Proofs.YtbldecdipicddaaDoor.Hand
open Go Go.RowKit Go.Proofs.YtbldecdipicddaaDoorW.PrintWords Go.Proofs.YtbldecdipicddaaDoorW.PrintLast
set_option maxHeartbeats 3200000 in
set_option maxRecDepth 100000 in
theorem shows_nofit (A : Option Addr) (c : Nat) (ll : List (List Int)) (i : Int) (B : Option Addr) (M cb : Nat) (w : World) (hT : TabQ w) (hr : Kd.C (Kd.slice 5 (Kd.int .u8)) w A ll.length ll) (hlc : ll.length ≤ c) (hal : ∀ W : World, TabQ W → Calls Tryd.prog 33 #[] W fun e w' => e = .returned (.bool true) ∧ Below W.heap.size W w') (hf : fitb ll = false) (hw : True) :
    Calls Tryd.prog 7 #[.slice A ll.length c, .int .i64 i, .slice B M cb] w fun e w' => e = .returned (.bool true) ∧ Below w.heap.size w w' := by
  have HhT := Aside0.mk hT
  have Hhr := Aside0.mk hr
  have Hhlc := Aside0.mk hlc
  have Hhal := Aside0.mk hal
  have Hhf := Aside0.mk hf
  clear hT hr hlc hal hf hw 
  go_enter Tryd.func7, Tryd.ntmps7
  go_wp2_with fail
  refine (Hhal.out w (HhT.out.at (Below.refl _ _))).mono ?_
  rintro e w1 ⟨rfl, hb_⟩
  have B2 := Aside0.mk (hb_)
  clear hb_
  go_wp2_with fail
  refine (fit_calls A c ll _ (Kd.C_below Hhr.out B2.out) Hhlc.out).mono ?_
  rintro e w3 ⟨rfl, hw_⟩
  obtain rfl : w1 = w3 := hw_.symm
  rw [Hhf.out]
  go_wp2_with fail
  go_ret
  exact ⟨rfl, B2.out⟩
set_option maxHeartbeats 3200000 in
set_option maxRecDepth 100000 in
theorem shows_neg (A : Option Addr) (c : Nat) (ll : List (List Int)) (i : Int) (B : Option Addr) (M cb : Nat) (w : World) (hT : TabQ w) (hr : Kd.C (Kd.slice 5 (Kd.int .u8)) w A ll.length ll) (hlc : ll.length ≤ c) (hal : ∀ W : World, TabQ W → Calls Tryd.prog 33 #[] W fun e w' => e = .returned (.bool true) ∧ Below W.heap.size W w') (hf : fitb ll = true) (hw : i < 0) :
    Calls Tryd.prog 7 #[.slice A ll.length c, .int .i64 i, .slice B M cb] w fun e w' => e = .returned (.bool true) ∧ Below w.heap.size w w' := by
  have HhT := Aside0.mk hT
  have Hhr := Aside0.mk hr
  have Hhlc := Aside0.mk hlc
  have Hhal := Aside0.mk hal
  have Hhf := Aside0.mk hf
  have i0a : ((i : Int) < (0 : Int)) = True := eq_true (by omega)
  have i0b : ((0 : Int) ≤ (i : Int)) = False := eq_false (by omega)
  clear hT hr hlc hal hf hw 
  go_enter Tryd.func7, Tryd.ntmps7
  go_wp2_with fail
  refine (Hhal.out w (HhT.out.at (Below.refl _ _))).mono ?_
  rintro e w1 ⟨rfl, hb_⟩
  have B2 := Aside0.mk (hb_)
  clear hb_
  go_wp2_with fail
  refine (fit_calls A c ll _ (Kd.C_below Hhr.out B2.out) Hhlc.out).mono ?_
  rintro e w3 ⟨rfl, hw_⟩
  obtain rfl : w1 = w3 := hw_.symm
  rw [Hhf.out]
  go_wp2_with fail
  go_ret
  exact ⟨rfl, B2.out⟩
set_option maxHeartbeats 3200000 in
set_option maxRecDepth 100000 in
theorem shows_big (A : Option Addr) (c : Nat) (ll : List (List Int)) (i : Int) (B : Option Addr) (M cb : Nat) (w : World) (hT : TabQ w) (hr : Kd.C (Kd.slice 5 (Kd.int .u8)) w A ll.length ll) (hlc : ll.length ≤ c) (hal : ∀ W : World, TabQ W → Calls Tryd.prog 33 #[] W fun e w' => e = .returned (.bool true) ∧ Below W.heap.size W w') (hf : fitb ll = true) (hw : 0 ≤ i ∧ (ll.length : Int) ≤ i) :
    Calls Tryd.prog 7 #[.slice A ll.length c, .int .i64 i, .slice B M cb] w fun e w' => e = .returned (.bool true) ∧ Below w.heap.size w w' := by
  have HhT := Aside0.mk hT
  have Hhr := Aside0.mk hr
  have Hhlc := Aside0.mk hlc
  have Hhal := Aside0.mk hal
  have Hhf := Aside0.mk hf
  have i0a : ((i : Int) < (0 : Int)) = False := eq_false (by omega)
  have i0b : ((0 : Int) ≤ (i : Int)) = True := eq_true (by omega)
  have ina : ((i : Int) < (((ll.length : Nat) : Int) : Int)) = False := eq_false (by omega)
  have inb : ((((ll.length : Nat) : Int) : Int) ≤ (i : Int)) = True := eq_true (by omega)
  clear hT hr hlc hal hf hw 
  go_enter Tryd.func7, Tryd.ntmps7
  go_wp2_with fail
  refine (Hhal.out w (HhT.out.at (Below.refl _ _))).mono ?_
  rintro e w1 ⟨rfl, hb_⟩
  have B2 := Aside0.mk (hb_)
  clear hb_
  go_wp2_with fail
  refine (fit_calls A c ll _ (Kd.C_below Hhr.out B2.out) Hhlc.out).mono ?_
  rintro e w3 ⟨rfl, hw_⟩
  obtain rfl : w1 = w3 := hw_.symm
  rw [Hhf.out]
  go_wp2_with fail
  go_ret
  exact ⟨rfl, B2.out⟩
set_option maxHeartbeats 3200000 in
set_option maxRecDepth 100000 in
theorem shows_long (A : Option Addr) (c : Nat) (ll : List (List Int)) (i : Int) (B : Option Addr) (M cb : Nat) (w : World) (hT : TabQ w) (hr : Kd.C (Kd.slice 5 (Kd.int .u8)) w A ll.length ll) (hlc : ll.length ≤ c) (hal : ∀ W : World, TabQ W → Calls Tryd.prog 33 #[] W fun e w' => e = .returned (.bool true) ∧ Below W.heap.size W w') (hf : fitb ll = true) (hw : 0 ≤ i ∧ i < (ll.length : Int) ∧ 200 < M) :
    Calls Tryd.prog 7 #[.slice A ll.length c, .int .i64 i, .slice B M cb] w fun e w' => e = .returned (.bool true) ∧ Below w.heap.size w w' := by
  have HhT := Aside0.mk hT
  have Hhr := Aside0.mk hr
  have Hhlc := Aside0.mk hlc
  have Hhal := Aside0.mk hal
  have Hhf := Aside0.mk hf
  have i0a : ((i : Int) < (0 : Int)) = False := eq_false (by omega)
  have i0b : ((0 : Int) ≤ (i : Int)) = True := eq_true (by omega)
  have ina : ((i : Int) < (((ll.length : Nat) : Int) : Int)) = True := eq_true (by omega)
  have inb : ((((ll.length : Nat) : Int) : Int) ≤ (i : Int)) = False := eq_false (by omega)
  have m2a : ((200 : Int) < (((M : Nat) : Int) : Int)) = True := eq_true (by omega)
  have m2b : ((((M : Nat) : Int) : Int) ≤ (200 : Int)) = False := eq_false (by omega)
  have m2c : (200 < M) = True := eq_true (by omega)
  have m2d : (M ≤ 200) = False := eq_false (by omega)
  clear hT hr hlc hal hf hw 
  go_enter Tryd.func7, Tryd.ntmps7
  go_wp2_with fail
  refine (Hhal.out w (HhT.out.at (Below.refl _ _))).mono ?_
  rintro e w1 ⟨rfl, hb_⟩
  have B2 := Aside0.mk (hb_)
  clear hb_
  go_wp2_with fail
  refine (fit_calls A c ll _ (Kd.C_below Hhr.out B2.out) Hhlc.out).mono ?_
  rintro e w3 ⟨rfl, hw_⟩
  obtain rfl : w1 = w3 := hw_.symm
  rw [Hhf.out]
  go_wp2_with fail
  go_ret
  exact ⟨rfl, B2.out⟩
set_option maxHeartbeats 3200000 in
set_option maxRecDepth 100000 in
theorem shows_main (ad : Addr) (c : Nat) (ll : List (List Int)) (i : Nat) (B : Option Addr) (M cb : Nat) (w : World) (hT : TabQ w) (hr : Kd.C (Kd.slice 5 (Kd.int .u8)) w (some ad) ll.length ll) (hlc : ll.length ≤ c) (hal : ∀ W : World, TabQ W → Calls Tryd.prog 33 #[] W fun e w' => e = .returned (.bool true) ∧ Below W.heap.size W w') (hf : fitb ll = true) (hw : i < ll.length ∧ M ≤ 200) (hi20 : ll.length ≤ 20) (lb : List Int) (r y z : Dg) (ps : List Dg) (hm10 : ps.length ≤ 10) (hs : List Hd) (hhl : hs.length = ll.length) (hh : Kd.C ksl w (some ad) ll.length hs) (x : List Int) (Ai : Option Addr) (ci : Nat) (hcell : ∀ W : World, Below w.heap.size w W → W.cell? (ad.add i) = some (.slice Ai x.length ci)) (hrows : ∀ (W : World) (A1 : Option Addr), Below w.heap.size w W → Kd.C ksl W A1 ll.length (hs.set i (B, M, cb)) → Kd.C (Kd.slice 5 (Kd.int .u8)) W A1 ll.length (ll.set i lb))
    (h1 : ∀ W : World, TabQ W → Below w.heap.size w W → Calls Tryd.prog 35 #[.slice (some ad) ll.length c] W fun e w' => e = .returned (.tuple #[.agg #[.int .u8 (r 0), .int .u8 (r 1), .int .u8 (r 2), .int .u8 (r 3), .int .u8 (r 4), .int .u8 (r 5), .int .u8 (r 6), .int .u8 (r 7), .int .u8 (r 8), .int .u8 (r 9), .int .u8 (r 10), .int .u8 (r 11), .int .u8 (r 12), .int .u8 (r 13), .int .u8 (r 14), .int .u8 (r 15), .int .u8 (r 16), .int .u8 (r 17), .int .u8 (r 18), .int .u8 (r 19)], .int .i64 0]) ∧ Below W.heap.size W w') (h2 : ∀ W : World, TabQ W → Below w.heap.size w W → Calls Tryd.prog 36 #[.slice (some ad) ll.length c, .int .i64 (i : Int)] W fun e w' => ∃ v0_ : Value, e = .returned (.tuple #[v0_, .int .i64 0]) ∧ Kd.R kdg 23 w' W.heap.size (fun _ => True) v0_ ps ∧ Below W.heap.size W w') (h3 : ∀ (W : World) (n : Nat), n = ps.length → Calls Tryd.prog 37 #[.int .i64 ((ll.length : Nat) : Int), .int .i64 (i : Int)] W fun e w' => e = .returned (.tuple #[.int .i64 (n : Int), .int .i64 0]) ∧ Below W.heap.size W w') (h4 : ∀ (W : World) (rp : Option Addr) (cp n : Nat), n = ps.length → TabQ W → Below w.heap.size w W → Kd.C kdg W rp n ps → Calls Tryd.prog 38 #[.agg #[.int .u8 (r 0), .int .u8 (r 1), .int .u8 (r 2), .int .u8 (r 3), .int .u8 (r 4), .int .u8 (r 5), .int .u8 (r 6), .int .u8 (r 7), .int .u8 (r 8), .int .u8 (r 9), .int .u8 (r 10), .int .u8 (r 11), .int .u8 (r 12), .int .u8 (r 13), .int .u8 (r 14), .int .u8 (r 15), .int .u8 (r 16), .int .u8 (r 17), .int .u8 (r 18), .int .u8 (r 19)], .int .i64 ((ll.length : Nat) : Int), .int .i64 (i : Int), .slice Ai x.length ci, .slice rp n cp] W fun e w' => e = .returned (.tuple #[.bool true, .int .i64 0]) ∧ Below W.heap.size W w') (h5 : ∀ (W : World) (A1 : Option Addr) (c1 : Nat), TabQ W → Kd.C (Kd.slice 5 (Kd.int .u8)) W A1 ll.length (ll.set i lb) → ll.length ≤ c1 → Calls Tryd.prog 35 #[.slice A1 ll.length c1] W fun e w' => e = .returned (.tuple #[.agg #[.int .u8 (y 0), .int .u8 (y 1), .int .u8 (y 2), .int .u8 (y 3), .int .u8 (y 4), .int .u8 (y 5), .int .u8 (y 6), .int .u8 (y 7), .int .u8 (y 8), .int .u8 (y 9), .int .u8 (y 10), .int .u8 (y 11), .int .u8 (y 12), .int .u8 (y 13), .int .u8 (y 14), .int .u8 (y 15), .int .u8 (y 16), .int .u8 (y 17), .int .u8 (y 18), .int .u8 (y 19)], .int .i64 0]) ∧ Below W.heap.size W w') (h6 : ∀ W : World, TabQ W → Below w.heap.size w W → Calls Tryd.prog 39 #[.slice B M cb] W fun e w' => e = .returned (.tuple #[.agg #[.int .u8 (z 0), .int .u8 (z 1), .int .u8 (z 2), .int .u8 (z 3), .int .u8 (z 4), .int .u8 (z 5), .int .u8 (z 6), .int .u8 (z 7), .int .u8 (z 8), .int .u8 (z 9), .int .u8 (z 10), .int .u8 (z 11), .int .u8 (z 12), .int .u8 (z 13), .int .u8 (z 14), .int .u8 (z 15), .int .u8 (z 16), .int .u8 (z 17), .int .u8 (z 18), .int .u8 (z 19)], .int .i64 0]) ∧ Below W.heap.size W w') (h7 : ∀ (W : World) (rp : Option Addr) (cp n : Nat), n = ps.length → TabQ W → Kd.C kdg W rp n ps → Calls Tryd.prog 40 #[.int .i64 ((ll.length : Nat) : Int), .int .i64 (i : Int), .agg #[.int .u8 (z 0), .int .u8 (z 1), .int .u8 (z 2), .int .u8 (z 3), .int .u8 (z 4), .int .u8 (z 5), .int .u8 (z 6), .int .u8 (z 7), .int .u8 (z 8), .int .u8 (z 9), .int .u8 (z 10), .int .u8 (z 11), .int .u8 (z 12), .int .u8 (z 13), .int .u8 (z 14), .int .u8 (z 15), .int .u8 (z 16), .int .u8 (z 17), .int .u8 (z 18), .int .u8 (z 19)], .slice rp n cp] W fun e w' => e = .returned (.tuple #[.agg #[.int .u8 (y 0), .int .u8 (y 1), .int .u8 (y 2), .int .u8 (y 3), .int .u8 (y 4), .int .u8 (y 5), .int .u8 (y 6), .int .u8 (y 7), .int .u8 (y 8), .int .u8 (y 9), .int .u8 (y 10), .int .u8 (y 11), .int .u8 (y 12), .int .u8 (y 13), .int .u8 (y 14), .int .u8 (y 15), .int .u8 (y 16), .int .u8 (y 17), .int .u8 (y 18), .int .u8 (y 19)], .int .i64 0]) ∧ Below W.heap.size W w') (h8 : ∀ (W : World) (A1 : Option Addr) (c1 : Nat), TabQ W → Kd.C (Kd.slice 5 (Kd.int .u8)) W A1 ll.length (ll.set i lb) → ll.length ≤ c1 → Calls Tryd.prog 36 #[.slice A1 ll.length c1, .int .i64 (i : Int)] W fun e w' => ∃ v0_ : Value, e = .returned (.tuple #[v0_, .int .i64 0]) ∧ Kd.R kdg 23 w' W.heap.size (fun _ => True) v0_ ps ∧ Below W.heap.size W w') :
    Calls Tryd.prog 7 #[.slice (some ad) ll.length c, .int .i64 (i : Int), .slice B M cb] w fun e w' => e = .returned (.bool true) ∧ Below w.heap.size w w' := by
  have hwi := hw.1
  have HhT := Aside0.mk hT
  have Hhr := Aside0.mk hr
  have Hhlc := Aside0.mk hlc
  have Hhal := Aside0.mk hal
  have Hhf := Aside0.mk hf
  have Hhi20 := Aside0.mk hi20
  have Hhwi := Aside0.mk hwi
  have Hhm10 := Aside0.mk hm10
  have Hhhl := Aside0.mk hhl
  have Hhh := Aside0.mk hh
  have Hhcell := Aside0.mk hcell
  have Hhrows := Aside0.mk hrows
  have Hh1 := Aside0.mk h1
  have Hh2 := Aside0.mk h2
  have Hh3 := Aside0.mk h3
  have Hh4 := Aside0.mk h4
  have Hh5 := Aside0.mk h5
  have Hh6 := Aside0.mk h6
  have Hh7 := Aside0.mk h7
  have Hh8 := Aside0.mk h8
  have i0a : ((((i : Nat) : Int) : Int) < (0 : Int)) = False := eq_false (by omega)
  have i0b : ((0 : Int) ≤ (((i : Nat) : Int) : Int)) = True := eq_true (by omega)
  have ina : ((((i : Nat) : Int) : Int) < (((ll.length : Nat) : Int) : Int)) = True := eq_true (by omega)
  have inb : ((((ll.length : Nat) : Int) : Int) ≤ (((i : Nat) : Int) : Int)) = False := eq_false (by omega)
  have inc : (i < ll.length) = True := eq_true (by omega)
  have ind : (ll.length ≤ i) = False := eq_false (by omega)
  have m2a : ((200 : Int) < (((M : Nat) : Int) : Int)) = False := eq_false (by omega)
  have m2b : ((((M : Nat) : Int) : Int) ≤ (200 : Int)) = True := eq_true (by omega)
  have m2c : (200 < M) = False := eq_false (by omega)
  have m2d : (M ≤ 200) = True := eq_true (by omega)
  have hqy := fun (k : Nat) (W : World) => eqA23 k W (y 0) (y 0) (y 1) (y 1) (y 2) (y 2) (y 3) (y 3) (y 4) (y 4) (y 5) (y 5) (y 6) (y 6) (y 7) (y 7) (y 8) (y 8) (y 9) (y 9) (y 10) (y 10) (y 11) (y 11) (y 12) (y 12) (y 13) (y 13) (y 14) (y 14) (y 15) (y 15) (y 16) (y 16) (y 17) (y 17) (y 18) (y 18) (y 19) (y 19)
  simp only [beq_self_eq_true, Bool.and_self] at hqy
  clear hT hr hlc hal hf hw hi20 hwi hm10 hhl hh hcell hrows h1 h2 h3 h4 h5 h6 h7 h8
  go_enter Tryd.func7, Tryd.ntmps7
  go_wp2_with fail
  refine (Hhal.out w (HhT.out.at (Below.refl _ _))).mono ?_
  rintro e w1 ⟨rfl, hb_⟩
  have B2 := Aside0.mk (hb_)
  clear hb_
  go_wp2_with fail
  refine (fit_calls (some ad) c ll _ (Kd.C_below Hhr.out B2.out) Hhlc.out).mono ?_
  rintro e w3 ⟨rfl, hw_⟩
  obtain rfl : w1 = w3 := hw_.symm
  rw [Hhf.out]
  go_wp2_with fail
  refine (Hh1.out w1 (HhT.out.at B2.out) B2.out).mono ?_
  rintro e w4 ⟨rfl, hb_⟩
  have B5 := Aside0.mk (below_step B2.out hb_)
  clear hb_ B2
  go_wp2_with (first | ((with_reducible refine gate_dst (N := 8) rfl ?_); refine box_event ?hg (N := 8) ?hd (cs := #[.int .u8 0, .int .u8 0, .int .u8 0, .int .u8 0, .int .u8 0, .int .u8 0, .int .u8 0, .int .u8 0, .int .u8 0, .int .u8 0, .int .u8 0, .int .u8 0, .int .u8 0, .int .u8 0, .int .u8 0, .int .u8 0, .int .u8 0, .int .u8 0, .int .u8 0, .int .u8 0]) (t := 23) ?hr ?_; (case hd => rfl); (case hg => rfl); (case hr => first | (go_simp; done) | (go_simp; rfl)); intro g6 hgg6 w7 hhg6 hbg6; have H10 := Aside0.mk hhg6; have G8 : w.heap.size ≤ g6 := Nat.le_trans B5.out.size (Nat.le_of_eq hgg6.symm); have B9 := Aside0.mk (below_step B5.out hbg6); clear hgg6 hhg6 hbg6 B5) | ((with_reducible refine gate_store (t := 23) (p := _) rfl ?_); refine storeN_event (T := 23) rfl rfl rfl rfl rfl (storeVar_blk H10.out 23 0 [.int .u8 (r 0), .int .u8 (r 1), .int .u8 (r 2), .int .u8 (r 3), .int .u8 (r 4), .int .u8 (r 5), .int .u8 (r 6), .int .u8 (r 7), .int .u8 (r 8), .int .u8 (r 9), .int .u8 (r 10), .int .u8 (r 11), .int .u8 (r 12), .int .u8 (r 13), .int .u8 (r 14), .int .u8 (r 15), .int .u8 (r 16), .int .u8 (r 17), .int .u8 (r 18), .int .u8 (r 19)] (by kernel_rfl) rfl (by simp)) ?_; have H12 := Aside0.mk (show (World.setCells w7 g6 0 [.int .u8 (r 0), .int .u8 (r 1), .int .u8 (r 2), .int .u8 (r 3), .int .u8 (r 4), .int .u8 (r 5), .int .u8 (r 6), .int .u8 (r 7), .int .u8 (r 8), .int .u8 (r 9), .int .u8 (r 10), .int .u8 (r 11), .int .u8 (r 12), .int .u8 (r 13), .int .u8 (r 14), .int .u8 (r 15), .int .u8 (r 16), .int .u8 (r 17), .int .u8 (r 18), .int .u8 (r 19)]).heap[g6]? = some (.cells #[.int .u8 (r 0), .int .u8 (r 1), .int .u8 (r 2), .int .u8 (r 3), .int .u8 (r 4), .int .u8 (r 5), .int .u8 (r 6), .int .u8 (r 7), .int .u8 (r 8), .int .u8 (r 9), .int .u8 (r 10), .int .u8 (r 11), .int .u8 (r 12), .int .u8 (r 13), .int .u8 (r 14), .int .u8 (r 15), .int .u8 (r 16), .int .u8 (r 17), .int .u8 (r 18), .int .u8 (r 19)] 23 (0, 0)) from blk_setCells [] [.int .u8 (r 0), .int .u8 (r 1), .int .u8 (r 2), .int .u8 (r 3), .int .u8 (r 4), .int .u8 (r 5), .int .u8 (r 6), .int .u8 (r 7), .int .u8 (r 8), .int .u8 (r 9), .int .u8 (r 10), .int .u8 (r 11), .int .u8 (r 12), .int .u8 (r 13), .int .u8 (r 14), .int .u8 (r 15), .int .u8 (r 16), .int .u8 (r 17), .int .u8 (r 18), .int .u8 (r 19)] [.int .u8 0, .int .u8 0, .int .u8 0, .int .u8 0, .int .u8 0, .int .u8 0, .int .u8 0, .int .u8 0, .int .u8 0, .int .u8 0, .int .u8 0, .int .u8 0, .int .u8 0, .int .u8 0, .int .u8 0, .int .u8 0, .int .u8 0, .int .u8 0, .int .u8 0, .int .u8 0] [] w7 rfl H10.out); have B13 := Aside0.mk (below_setCells G8 [.int .u8 (r 0), .int .u8 (r 1), .int .u8 (r 2), .int .u8 (r 3), .int .u8 (r 4), .int .u8 (r 5), .int .u8 (r 6), .int .u8 (r 7), .int .u8 (r 8), .int .u8 (r 9), .int .u8 (r 10), .int .u8 (r 11), .int .u8 (r 12), .int .u8 (r 13), .int .u8 (r 14), .int .u8 (r 15), .int .u8 (r 16), .int .u8 (r 17), .int .u8 (r 18), .int .u8 (r 19)] 0 w7 B9.out); clear H10 B9; generalize World.setCells w7 g6 0 [.int .u8 (r 0), .int .u8 (r 1), .int .u8 (r 2), .int .u8 (r 3), .int .u8 (r 4), .int .u8 (r 5), .int .u8 (r 6), .int .u8 (r 7), .int .u8 (r 8), .int .u8 (r 9), .int .u8 (r 10), .int .u8 (r 11), .int .u8 (r 12), .int .u8 (r 13), .int .u8 (r 14), .int .u8 (r 15), .int .u8 (r 16), .int .u8 (r 17), .int .u8 (r 18), .int .u8 (r 19)] = w11 at H12 B13 ⊢; generalize Value.tuple #[.agg #[.int .u8 (r 0), .int .u8 (r 1), .int .u8 (r 2), .int .u8 (r 3), .int .u8 (r 4), .int .u8 (r 5), .int .u8 (r 6), .int .u8 (r 7), .int .u8 (r 8), .int .u8 (r 9), .int .u8 (r 10), .int .u8 (r 11), .int .u8 (r 12), .int .u8 (r 13), .int .u8 (r 14), .int .u8 (r 15), .int .u8 (r 16), .int .u8 (r 17), .int .u8 (r 18), .int .u8 (r 19)], .int .i64 0] = V14; generalize Value.agg #[.int .u8 (r 0), .int .u8 (r 1), .int .u8 (r 2), .int .u8 (r 3), .int .u8 (r 4), .int .u8 (r 5), .int .u8 (r 6), .int .u8 (r 7), .int .u8 (r 8), .int .u8 (r 9), .int .u8 (r 10), .int .u8 (r 11), .int .u8 (r 12), .int .u8 (r 13), .int .u8 (r 14), .int .u8 (r 15), .int .u8 (r 16), .int .u8 (r 17), .int .u8 (r 18), .int .u8 (r 19)] = V15))
  refine (Hh2.out w11 (HhT.out.at B13.out) B13.out).mono ?_
  rintro e w16 ⟨vp_, rfl, hR_, hb_⟩
  have B17 := Aside0.mk (below_step B13.out hb_)
  have H18 := Aside0.mk (blk_below H12.out hb_)
  clear hb_ B13 H12
  obtain ⟨rp, cp, rfl, hle_, hC_⟩ := Kd.R_reads hR_
  obtain ⟨m, hm_⟩ : ∃ m : Nat, m = ps.length := ⟨_, rfl⟩
  rw [← hm_]
  have Hm := Aside0.mk hm_
  rw [← hm_] at hC_ hle_
  clear hm_
  have BWP := Aside0.mk B17.out
  have RP := Aside0.mk hC_
  have LP := Aside0.mk hle_
  clear hC_ hle_ hR_
  have H8P := Aside0.mk H18.out
  have m1 : (10 < (m : Int)) = False := eq_false (by have := Hhm10.out; have := Hm.out; omega)
  have m3 : (10 < m) = False := eq_false (by have := Hhm10.out; have := Hm.out; omega)
  go_wp2_with fail
  refine (Hh3.out w16 m Hm.out).mono ?_
  rintro e w19 ⟨rfl, hb_⟩
  have B20 := Aside0.mk (below_step B17.out hb_)
  have B21 := Aside0.mk (hb_)
  have H22 := Aside0.mk (blk_below H18.out hb_)
  clear hb_ B17 H18
  go_wp2_with fail
  have H24 := Aside0.mk (blk_drew H22.out)
  have B25 := Aside0.mk (below_drew B20.out)
  have B26 := Aside0.mk (below_drew B21.out)
  clear H22 B20 B21
  refine start_ (n := 15) (S := fun w' => (loadVar 23 ⟨g6, 0, none⟩).run Tryd.prog w' = .ok (.agg #[.int .u8 (r 0), .int .u8 (r 1), .int .u8 (r 2), .int .u8 (r 3), .int .u8 (r 4), .int .u8 (r 5), .int .u8 (r 6), .int .u8 (r 7), .int .u8 (r 8), .int .u8 (r 9), .int .u8 (r 10), .int .u8 (r 11), .int .u8 (r 12), .int .u8 (r 13), .int .u8 (r 14), .int .u8 (r 15), .int .u8 (r 16), .int .u8 (r 17), .int .u8 (r 18), .int .u8 (r 19)]) w' ∧ w'.cell? (ad.add i) = some (.slice Ai x.length ci)) (ds := []) #[false, false, false, false, false, false, false, false, false, false, false, false, false, false, false] (by kernel_rfl) rfl rfl ⟨(run_loadVar_row _ _ _ _ _ (0, 0) _ H24.out Tryd.underlying23 rfl (by kernel_rfl)), (Hhcell.out _ B25.out)⟩ (fun hHeld => ?_)
  generalize World.drew w19 = w23 at H24 B25 B26 hHeld ⊢
  refine pure_ (i := 1) (N := some 69) (v := ?_) (a' := ?_) #[false, true, false, false, false, false, false, false, false, false, false, false, false, false, false] rfl rfl (by kernel_rfl) (fun _ _ _ h => h) (Or.inl ⟨by rfl, ?_⟩) ?_ ?_
  rotate_left
  · intro w'
    go_simp
    with_reducible rfl
  rotate_left
  · simp only [Act.put, List.setIfInBounds_toArray, List.set_cons_zero, List.set_cons_succ, i64_w, i32_w]
    rfl
  refine pure_ (i := 2) (N := some 70) (v := ?_) (a' := ?_) #[false, true, true, false, false, false, false, false, false, false, false, false, false, false, false] rfl rfl (by kernel_rfl) (fun _ _ _ h => h) (Or.inl ⟨by rfl, ?_⟩) ?_ ?_
  rotate_left
  · intro w'
    go_simp
    with_reducible rfl
  rotate_left
  · simp only [Act.put, List.setIfInBounds_toArray, List.set_cons_zero, List.set_cons_succ, i64_w, i32_w]
    rfl
  refine pure_ (i := 3) (N := some 71) (v := ?_) (a' := ?_) #[false, true, true, true, false, false, false, false, false, false, false, false, false, false, false] rfl rfl (by kernel_rfl) (fun _ _ _ h => h) (Or.inl ⟨by rfl, ?_⟩) ?_ ?_
  rotate_left
  · intro w'
    go_simp
    with_reducible rfl
  rotate_left
  · simp only [Act.put, List.setIfInBounds_toArray, List.set_cons_zero, List.set_cons_succ, i64_w, i32_w]
    rfl
  refine pure_ (i := 4) (N := some 72) (v := ?_) (a' := ?_) #[false, true, true, true, true, false, false, false, false, false, false, false, false, false, false] rfl rfl (by kernel_rfl) (fun _ _ _ h => h) (Or.inl ⟨by rfl, ?_⟩) ?_ ?_
  rotate_left
  · intro w'
    go_simp
    with_reducible rfl
  rotate_left
  · simp only [Act.put, List.setIfInBounds_toArray, List.set_cons_zero, List.set_cons_succ, i64_w, i32_w]
    rfl
  refine pure_ (i := 5) (N := some 73) (v := ?_) (a' := ?_) #[false, true, true, true, true, true, false, false, false, false, false, false, false, false, false] rfl rfl (by kernel_rfl) (fun _ _ _ h => h) (Or.inl ⟨by rfl, ?_⟩) ?_ ?_
  rotate_left
  · intro w'
    go_simp
    with_reducible rfl
  rotate_left
  · simp only [Act.put, List.setIfInBounds_toArray, List.set_cons_zero, List.set_cons_succ, i64_w, i32_w]
    rfl
  refine pure_ (i := 6) (N := some 74) (v := ?_) (a' := ?_) #[false, true, true, true, true, true, true, false, false, false, false, false, false, false, false] rfl rfl (by kernel_rfl) (fun _ _ _ h => h) (Or.inl ⟨by rfl, ?_⟩) ?_ ?_
  rotate_left
  · intro w'
    go_simp
    with_reducible rfl
  rotate_left
  · simp only [Act.put, List.setIfInBounds_toArray, List.set_cons_zero, List.set_cons_succ, i64_w, i32_w]
    rfl
  refine pure_ (i := 8) (N := some 76) (v := ?_) (a' := ?_) #[false, true, true, true, true, true, true, false, true, false, false, false, false, false, false] rfl rfl (by kernel_rfl) (fun _ _ _ h => h) (Or.inl ⟨by rfl, ?_⟩) ?_ ?_
  rotate_left
  · intro w'
    go_simp
    with_reducible rfl
  rotate_left
  · simp only [Act.put, List.setIfInBounds_toArray, List.set_cons_zero, List.set_cons_succ, i64_w, i32_w]
    rfl
  refine take_ (i := 0) (N := some 68) (v := ?_) (a' := ?_) #[true, true, true, true, true, true, true, false, true, false, false, false, false, false, false] rfl rfl (by kernel_rfl) (fun _ _ _ h => h) (Or.inl ⟨by rfl, ?_⟩) hHeld ?_ ?_
  rotate_left
  · rintro w' ⟨s0, s1⟩
    refine (loadN_run (T := 23) rfl rfl s0).trans ?_
    with_reducible rfl
  rotate_left
  · simp only [Act.put, List.setIfInBounds_toArray, List.set_cons_zero, List.set_cons_succ, i64_w, i32_w]
    rfl
  refine take_ (i := 7) (N := some 75) (v := ?_) (a' := ?_) #[true, true, true, true, true, true, true, true, true, false, false, false, false, false, false] rfl rfl (by kernel_rfl) (fun _ _ _ h => h) (Or.inl ⟨by rfl, ?_⟩) hHeld ?_ ?_
  rotate_left
  · rintro w' ⟨s0, s1⟩
    go_simp
    with_reducible rfl
  rotate_left
  · simp only [Act.put, List.setIfInBounds_toArray, List.set_cons_zero, List.set_cons_succ, i64_w, i32_w]
    rfl
  refine one_ (i := 9) (N := some 77) #[true, true, true, true, true, true, true, true, true, true, false, false, false, false, false] rfl rfl (by kernel_rfl) (by decide) (fun K hK => ?_)
  refine goes_ Tryd.func38 (by kernel_rfl) rfl #[.agg #[.int .u8 (r 0), .int .u8 (r 1), .int .u8 (r 2), .int .u8 (r 3), .int .u8 (r 4), .int .u8 (r 5), .int .u8 (r 6), .int .u8 (r 7), .int .u8 (r 8), .int .u8 (r 9), .int .u8 (r 10), .int .u8 (r 11), .int .u8 (r 12), .int .u8 (r 13), .int .u8 (r 14), .int .u8 (r 15), .int .u8 (r 16), .int .u8 (r 17), .int .u8 (r 18), .int .u8 (r 19)], .int .i64 ((ll.length : Nat) : Int), .int .i64 (i : Int), .slice Ai x.length ci, .slice rp m cp] (by rfl) rfl rfl (by simp only [List.map_toArray, List.map_cons, List.map_nil]; rfl) ?_
  with_reducible refine (Hh4.out w23 rp cp m Hm.out (HhT.out.at B25.out) B25.out (Kd.C_below RP.out B26.out)).mono ?_
  rintro e_ w27 ⟨rfl, hb_⟩
  refine ⟨_, rfl, ?_⟩
  have B28 := Aside0.mk (below_step B25.out hb_)
  have B29 := Aside0.mk (below_step B26.out hb_)
  have H30 := Aside0.mk (blk_below H24.out hb_)
  clear hb_ B25 B26 H24
  refine hK.out _ _ ⟨(run_loadVar_row _ _ _ _ _ (0, 0) _ H30.out Tryd.underlying23 rfl (by kernel_rfl)), (Hhcell.out _ B28.out)⟩ (fun hHeld => ?_)
  clear hK K
  refine norm_ (a' := ?_) ?_ ?_
  rotate_left
  · show Act.put _ (some 77) _ = _
    simp only [Act.put, List.setIfInBounds_toArray, List.set_cons_zero, List.set_cons_succ, i64_w, i32_w]
    rfl
  refine pure_ (i := 10) (N := some 67) (v := ?_) (a' := ?_) #[true, true, true, true, true, true, true, true, true, true, true, false, false, false, false] rfl rfl (by kernel_rfl) (fun _ _ _ h => h) (Or.inl ⟨by rfl, ?_⟩) ?_ ?_
  rotate_left
  · intro w'
    go_simp
    with_reducible rfl
  rotate_left
  · simp only [Act.put, List.setIfInBounds_toArray, List.set_cons_zero, List.set_cons_succ, i64_w, i32_w]
    rfl
  refine pure_ (i := 11) (N := some 78) (v := ?_) (a' := ?_) #[true, true, true, true, true, true, true, true, true, true, true, true, false, false, false] rfl rfl (by kernel_rfl) (fun _ _ _ h => h) (Or.inl ⟨by rfl, ?_⟩) ?_ ?_
  rotate_left
  · intro w'
    go_simp
    with_reducible rfl
  rotate_left
  · simp only [Act.put, List.setIfInBounds_toArray, List.set_cons_zero, List.set_cons_succ, i64_w, i32_w]
    rfl
  refine pure_ (i := 12) (N := some 79) (v := ?_) (a' := ?_) #[true, true, true, true, true, true, true, true, true, true, true, true, true, false, false] rfl rfl (by kernel_rfl) (fun _ _ _ h => h) (Or.inl ⟨by rfl, ?_⟩) ?_ ?_
  rotate_left
  · intro w'
    go_simp
    with_reducible rfl
  rotate_left
  · simp only [Act.put, List.setIfInBounds_toArray, List.set_cons_zero, List.set_cons_succ, i64_w, i32_w]
    rfl
  refine pure_ (i := 13) (N := some 14) (v := ?_) (a' := ?_) #[true, true, true, true, true, true, true, true, true, true, true, true, true, true, false] rfl rfl (by kernel_rfl) (fun _ _ _ h => h) (Or.inl ⟨by rfl, ?_⟩) ?_ ?_
  rotate_left
  · intro w'
    go_simp
    with_reducible rfl
  rotate_left
  · simp only [Act.put, List.setIfInBounds_toArray, List.set_cons_zero, List.set_cons_succ, i64_w, i32_w]
    rfl
  refine pure_ (i := 14) (N := some 15) (v := ?_) (a' := ?_) #[true, true, true, true, true, true, true, true, true, true, true, true, true, true, true] rfl rfl (by kernel_rfl) (fun _ _ _ h => h) (Or.inl ⟨by rfl, ?_⟩) ?_ ?_
  rotate_left
  · intro w'
    go_simp
    with_reducible rfl
  rotate_left
  · simp only [Act.put, List.setIfInBounds_toArray, List.set_cons_zero, List.set_cons_succ, i64_w, i32_w]
    rfl
  refine done_ (by kernel_rfl) ?_
  go_wp2_with (first | ((with_reducible refine gate_dst (N := 108) rfl ?_); refine Kd.R_lit ksl (w0 := w16) _ 26 ?hg (N := 108) ?hd (xs := ([] : List Hd)) (inner := []) (ok := fun _ => True) (okp := fun _ => True) ?hr ?hp (fun _ hk => hk) trivial B29.out (below_size B29.out) (by simp) ?_; (case hd => rfl); (case hg => rfl); (case hr => first | (go_simp; done) | (go_simp; rfl)); (case hp => exact ⟨rfl, fun j p h => by simp at h⟩); intro v32 w31 ho_ hb_ hg_ _; have HO33 := Aside0.mk ho_; have H34 := Aside0.mk (blk_grown H30.out hg_ (by simp)); have B35 := Aside0.mk (below_step BWP.out hb_); have B36 := Aside0.mk hb_; clear ho_ hb_ hg_ H30 B28 B29) | ((with_reducible refine gate_dst (N := 110) rfl ?_); (with_reducible refine gate_builtin (b := .append) (xs := #[.tmp 108, .tmp 109]) rfl ?_); at_builtin; refine Kd.R_append_rows ksl (w0 := w16) w16.heap.size rfl (.tmp 108) (.tmp 109) 51 26 (.slice none 0 0) 24 rfl Tryd.underlying51 (by kernel_rfl) rfl (by decide) (by decide) _ [] hs _ _ _ (fun _ => True) (fun _ => False) rfl rfl ?aO ?aR (fun _ _ h => h) (fun _ h => h.elim) ?aF ?aB ?aS ?aL ?_; (case aR => exact (Kd.C_below Hhh.out B35.out)); (case aB => exact B36.out); (case aF => exact (fun _ _ => trivial)); (case aO => exact HO33.out); (case aS => exact below_size B36.out); (case aL => have := Hhi20.out; simp only [List.length_nil]; omega); intro v38 w37 ho hb hg hat; have HO39 := Aside0.mk (show Kd.R ksl 26 w37 w16.heap.size (fun _ => True) v38 hs from ho); have H40 := Aside0.mk (blk_grown H34.out hg (Kd.R_ne HO33.out H34.out (by decide))); have B41 := Aside0.mk (below_step BWP.out hb); have B42 := Aside0.mk hb; clear ho hb hg hat HO33 H34 B35 B36; obtain ⟨ad2, cap2, rfl, hput_⟩ := hd_put HO39.out (by have := Hhhl.out; have := Hhwi.out; omega); obtain ⟨w111, hs_, hR_, hk_⟩ := hput_ i (by have := Hhhl.out; have := Hhwi.out; omega) (B, M, cb); rw [Hhhl.out] at hR_ ⊢; have HS := Aside0.mk hs_; have HR := Aside0.mk hR_; have HK2 := Aside0.mk (hk_ w16 (Nat.le_refl _) B42.out); clear hput_ hs_ hR_ hk_ HO39) | ((with_reducible refine gate_store (t := 26) (p := _) rfl ?_); refine storeP_event rfl rfl rfl rfl rfl HS.out ?_; clear HS))
  have BW2 := Aside0.mk (below_step BWP.out HK2.out)
  have H8Q := Aside0.mk (blk_below H8P.out HK2.out)
  clear H40 B41 B42
  obtain ⟨hn_, hle_, hC_⟩ := Kd.R_reads' HR.out
  rw [← hn_] at hC_
  have HCR := Aside0.mk hC_
  have HLE := Aside0.mk hle_
  clear hn_ hle_ hC_ HR
  refine (Hh5.out w111 (some ad2) cap2 (HhT.out.at BW2.out) (Hhrows.out w111 _ BW2.out (Kd.C_below HCR.out (Below.refl _ _))) HLE.out).mono ?_
  rintro e w43 ⟨rfl, hb_⟩
  have B44 := Aside0.mk (below_step BW2.out hb_)
  have B45 := Aside0.mk (below_step HK2.out hb_)
  have B46 := Aside0.mk (hb_)
  have H47 := Aside0.mk (blk_below H8Q.out hb_)
  clear hb_ BW2 HK2 H8Q
  go_wp2_with (first | ((with_reducible refine gate_dst (N := 17) rfl ?_); refine box_event ?hg (N := 17) ?hd (cs := #[.int .u8 0, .int .u8 0, .int .u8 0, .int .u8 0, .int .u8 0, .int .u8 0, .int .u8 0, .int .u8 0, .int .u8 0, .int .u8 0, .int .u8 0, .int .u8 0, .int .u8 0, .int .u8 0, .int .u8 0, .int .u8 0, .int .u8 0, .int .u8 0, .int .u8 0, .int .u8 0]) (t := 23) ?hr ?_; (case hd => rfl); (case hg => rfl); (case hr => first | (go_simp; done) | (go_simp; rfl)); intro g48 hgg48 w49 hhg48 hbg48; have H58 := Aside0.mk hhg48; have N50 : g6 ≠ g48 := Nat.ne_of_lt (Nat.lt_of_lt_of_eq (blk_lt H47.out) hgg48.symm); have G51 : w.heap.size ≤ g48 := Nat.le_trans B44.out.size (Nat.le_of_eq hgg48.symm); have G52 : w16.heap.size ≤ g48 := Nat.le_trans B45.out.size (Nat.le_of_eq hgg48.symm); have G53 : w111.heap.size ≤ g48 := Nat.le_trans B46.out.size (Nat.le_of_eq hgg48.symm); have B54 := Aside0.mk (below_step B44.out hbg48); have B55 := Aside0.mk (below_step B45.out hbg48); have B56 := Aside0.mk (below_step B46.out hbg48); have H57 := Aside0.mk (blk_below H47.out hbg48); clear hgg48 hhg48 hbg48 B44 B45 B46 H47) | ((with_reducible refine gate_store (t := 23) (p := _) rfl ?_); refine storeN_event (T := 23) rfl rfl rfl rfl rfl (storeVar_blk H58.out 23 0 [.int .u8 (y 0), .int .u8 (y 1), .int .u8 (y 2), .int .u8 (y 3), .int .u8 (y 4), .int .u8 (y 5), .int .u8 (y 6), .int .u8 (y 7), .int .u8 (y 8), .int .u8 (y 9), .int .u8 (y 10), .int .u8 (y 11), .int .u8 (y 12), .int .u8 (y 13), .int .u8 (y 14), .int .u8 (y 15), .int .u8 (y 16), .int .u8 (y 17), .int .u8 (y 18), .int .u8 (y 19)] (by kernel_rfl) rfl (by simp)) ?_; have H60 := Aside0.mk (show (World.setCells w49 g48 0 [.int .u8 (y 0), .int .u8 (y 1), .int .u8 (y 2), .int .u8 (y 3), .int .u8 (y 4), .int .u8 (y 5), .int .u8 (y 6), .int .u8 (y 7), .int .u8 (y 8), .int .u8 (y 9), .int .u8 (y 10), .int .u8 (y 11), .int .u8 (y 12), .int .u8 (y 13), .int .u8 (y 14), .int .u8 (y 15), .int .u8 (y 16), .int .u8 (y 17), .int .u8 (y 18), .int .u8 (y 19)]).heap[g48]? = some (.cells #[.int .u8 (y 0), .int .u8 (y 1), .int .u8 (y 2), .int .u8 (y 3), .int .u8 (y 4), .int .u8 (y 5), .int .u8 (y 6), .int .u8 (y 7), .int .u8 (y 8), .int .u8 (y 9), .int .u8 (y 10), .int .u8 (y 11), .int .u8 (y 12), .int .u8 (y 13), .int .u8 (y 14), .int .u8 (y 15), .int .u8 (y 16), .int .u8 (y 17), .int .u8 (y 18), .int .u8 (y 19)] 23 (0, 0)) from blk_setCells [] [.int .u8 (y 0), .int .u8 (y 1), .int .u8 (y 2), .int .u8 (y 3), .int .u8 (y 4), .int .u8 (y 5), .int .u8 (y 6), .int .u8 (y 7), .int .u8 (y 8), .int .u8 (y 9), .int .u8 (y 10), .int .u8 (y 11), .int .u8 (y 12), .int .u8 (y 13), .int .u8 (y 14), .int .u8 (y 15), .int .u8 (y 16), .int .u8 (y 17), .int .u8 (y 18), .int .u8 (y 19)] [.int .u8 0, .int .u8 0, .int .u8 0, .int .u8 0, .int .u8 0, .int .u8 0, .int .u8 0, .int .u8 0, .int .u8 0, .int .u8 0, .int .u8 0, .int .u8 0, .int .u8 0, .int .u8 0, .int .u8 0, .int .u8 0, .int .u8 0, .int .u8 0, .int .u8 0, .int .u8 0] [] w49 rfl H58.out); have H61 := Aside0.mk (far_setCells N50 [.int .u8 (y 0), .int .u8 (y 1), .int .u8 (y 2), .int .u8 (y 3), .int .u8 (y 4), .int .u8 (y 5), .int .u8 (y 6), .int .u8 (y 7), .int .u8 (y 8), .int .u8 (y 9), .int .u8 (y 10), .int .u8 (y 11), .int .u8 (y 12), .int .u8 (y 13), .int .u8 (y 14), .int .u8 (y 15), .int .u8 (y 16), .int .u8 (y 17), .int .u8 (y 18), .int .u8 (y 19)] 0 w49 H57.out); have B62 := Aside0.mk (below_setCells G51 [.int .u8 (y 0), .int .u8 (y 1), .int .u8 (y 2), .int .u8 (y 3), .int .u8 (y 4), .int .u8 (y 5), .int .u8 (y 6), .int .u8 (y 7), .int .u8 (y 8), .int .u8 (y 9), .int .u8 (y 10), .int .u8 (y 11), .int .u8 (y 12), .int .u8 (y 13), .int .u8 (y 14), .int .u8 (y 15), .int .u8 (y 16), .int .u8 (y 17), .int .u8 (y 18), .int .u8 (y 19)] 0 w49 B54.out); have B63 := Aside0.mk (below_setCells G52 [.int .u8 (y 0), .int .u8 (y 1), .int .u8 (y 2), .int .u8 (y 3), .int .u8 (y 4), .int .u8 (y 5), .int .u8 (y 6), .int .u8 (y 7), .int .u8 (y 8), .int .u8 (y 9), .int .u8 (y 10), .int .u8 (y 11), .int .u8 (y 12), .int .u8 (y 13), .int .u8 (y 14), .int .u8 (y 15), .int .u8 (y 16), .int .u8 (y 17), .int .u8 (y 18), .int .u8 (y 19)] 0 w49 B55.out); have B64 := Aside0.mk (below_setCells G53 [.int .u8 (y 0), .int .u8 (y 1), .int .u8 (y 2), .int .u8 (y 3), .int .u8 (y 4), .int .u8 (y 5), .int .u8 (y 6), .int .u8 (y 7), .int .u8 (y 8), .int .u8 (y 9), .int .u8 (y 10), .int .u8 (y 11), .int .u8 (y 12), .int .u8 (y 13), .int .u8 (y 14), .int .u8 (y 15), .int .u8 (y 16), .int .u8 (y 17), .int .u8 (y 18), .int .u8 (y 19)] 0 w49 B56.out); clear H58 H57 B54 B55 B56; generalize World.setCells w49 g48 0 [.int .u8 (y 0), .int .u8 (y 1), .int .u8 (y 2), .int .u8 (y 3), .int .u8 (y 4), .int .u8 (y 5), .int .u8 (y 6), .int .u8 (y 7), .int .u8 (y 8), .int .u8 (y 9), .int .u8 (y 10), .int .u8 (y 11), .int .u8 (y 12), .int .u8 (y 13), .int .u8 (y 14), .int .u8 (y 15), .int .u8 (y 16), .int .u8 (y 17), .int .u8 (y 18), .int .u8 (y 19)] = w59 at H61 H60 B62 B63 B64 ⊢; generalize Value.tuple #[.agg #[.int .u8 (y 0), .int .u8 (y 1), .int .u8 (y 2), .int .u8 (y 3), .int .u8 (y 4), .int .u8 (y 5), .int .u8 (y 6), .int .u8 (y 7), .int .u8 (y 8), .int .u8 (y 9), .int .u8 (y 10), .int .u8 (y 11), .int .u8 (y 12), .int .u8 (y 13), .int .u8 (y 14), .int .u8 (y 15), .int .u8 (y 16), .int .u8 (y 17), .int .u8 (y 18), .int .u8 (y 19)], .int .i64 0] = V65; generalize Value.agg #[.int .u8 (y 0), .int .u8 (y 1), .int .u8 (y 2), .int .u8 (y 3), .int .u8 (y 4), .int .u8 (y 5), .int .u8 (y 6), .int .u8 (y 7), .int .u8 (y 8), .int .u8 (y 9), .int .u8 (y 10), .int .u8 (y 11), .int .u8 (y 12), .int .u8 (y 13), .int .u8 (y 14), .int .u8 (y 15), .int .u8 (y 16), .int .u8 (y 17), .int .u8 (y 18), .int .u8 (y 19)] = V66))
  refine (Hh6.out w59 (HhT.out.at B62.out) B62.out).mono ?_
  rintro e w67 ⟨rfl, hb_⟩
  have B68 := Aside0.mk (below_step B62.out hb_)
  have B69 := Aside0.mk (below_step B63.out hb_)
  have B70 := Aside0.mk (below_step B64.out hb_)
  have H71 := Aside0.mk (blk_below H61.out hb_)
  have H72 := Aside0.mk (blk_below H60.out hb_)
  clear hb_ B62 B63 B64 H61 H60
  go_wp2_with (first | ((with_reducible refine gate_dst (N := 19) rfl ?_); refine box_event ?hg (N := 19) ?hd (cs := #[.int .u8 0, .int .u8 0, .int .u8 0, .int .u8 0, .int .u8 0, .int .u8 0, .int .u8 0, .int .u8 0, .int .u8 0, .int .u8 0, .int .u8 0, .int .u8 0, .int .u8 0, .int .u8 0, .int .u8 0, .int .u8 0, .int .u8 0, .int .u8 0, .int .u8 0, .int .u8 0]) (t := 23) ?hr ?_; (case hd => rfl); (case hg => rfl); (case hr => first | (go_simp; done) | (go_simp; rfl)); intro g73 hgg73 w74 hhg73 hbg73; have H85 := Aside0.mk hhg73; have N75 : g6 ≠ g73 := Nat.ne_of_lt (Nat.lt_of_lt_of_eq (blk_lt H71.out) hgg73.symm); have N76 : g48 ≠ g73 := Nat.ne_of_lt (Nat.lt_of_lt_of_eq (blk_lt H72.out) hgg73.symm); have G77 : w.heap.size ≤ g73 := Nat.le_trans B68.out.size (Nat.le_of_eq hgg73.symm); have G78 : w16.heap.size ≤ g73 := Nat.le_trans B69.out.size (Nat.le_of_eq hgg73.symm); have G79 : w111.heap.size ≤ g73 := Nat.le_trans B70.out.size (Nat.le_of_eq hgg73.symm); have B80 := Aside0.mk (below_step B68.out hbg73); have B81 := Aside0.mk (below_step B69.out hbg73); have B82 := Aside0.mk (below_step B70.out hbg73); have H83 := Aside0.mk (blk_below H71.out hbg73); have H84 := Aside0.mk (blk_below H72.out hbg73); clear hgg73 hhg73 hbg73 B68 B69 B70 H71 H72) | ((with_reducible refine gate_store (t := 23) (p := _) rfl ?_); refine storeN_event (T := 23) rfl rfl rfl rfl rfl (storeVar_blk H85.out 23 0 [.int .u8 (z 0), .int .u8 (z 1), .int .u8 (z 2), .int .u8 (z 3), .int .u8 (z 4), .int .u8 (z 5), .int .u8 (z 6), .int .u8 (z 7), .int .u8 (z 8), .int .u8 (z 9), .int .u8 (z 10), .int .u8 (z 11), .int .u8 (z 12), .int .u8 (z 13), .int .u8 (z 14), .int .u8 (z 15), .int .u8 (z 16), .int .u8 (z 17), .int .u8 (z 18), .int .u8 (z 19)] (by kernel_rfl) rfl (by simp)) ?_; have H87 := Aside0.mk (show (World.setCells w74 g73 0 [.int .u8 (z 0), .int .u8 (z 1), .int .u8 (z 2), .int .u8 (z 3), .int .u8 (z 4), .int .u8 (z 5), .int .u8 (z 6), .int .u8 (z 7), .int .u8 (z 8), .int .u8 (z 9), .int .u8 (z 10), .int .u8 (z 11), .int .u8 (z 12), .int .u8 (z 13), .int .u8 (z 14), .int .u8 (z 15), .int .u8 (z 16), .int .u8 (z 17), .int .u8 (z 18), .int .u8 (z 19)]).heap[g73]? = some (.cells #[.int .u8 (z 0), .int .u8 (z 1), .int .u8 (z 2), .int .u8 (z 3), .int .u8 (z 4), .int .u8 (z 5), .int .u8 (z 6), .int .u8 (z 7), .int .u8 (z 8), .int .u8 (z 9), .int .u8 (z 10), .int .u8 (z 11), .int .u8 (z 12), .int .u8 (z 13), .int .u8 (z 14), .int .u8 (z 15), .int .u8 (z 16), .int .u8 (z 17), .int .u8 (z 18), .int .u8 (z 19)] 23 (0, 0)) from blk_setCells [] [.int .u8 (z 0), .int .u8 (z 1), .int .u8 (z 2), .int .u8 (z 3), .int .u8 (z 4), .int .u8 (z 5), .int .u8 (z 6), .int .u8 (z 7), .int .u8 (z 8), .int .u8 (z 9), .int .u8 (z 10), .int .u8 (z 11), .int .u8 (z 12), .int .u8 (z 13), .int .u8 (z 14), .int .u8 (z 15), .int .u8 (z 16), .int .u8 (z 17), .int .u8 (z 18), .int .u8 (z 19)] [.int .u8 0, .int .u8 0, .int .u8 0, .int .u8 0, .int .u8 0, .int .u8 0, .int .u8 0, .int .u8 0, .int .u8 0, .int .u8 0, .int .u8 0, .int .u8 0, .int .u8 0, .int .u8 0, .int .u8 0, .int .u8 0, .int .u8 0, .int .u8 0, .int .u8 0, .int .u8 0] [] w74 rfl H85.out); have H88 := Aside0.mk (far_setCells N75 [.int .u8 (z 0), .int .u8 (z 1), .int .u8 (z 2), .int .u8 (z 3), .int .u8 (z 4), .int .u8 (z 5), .int .u8 (z 6), .int .u8 (z 7), .int .u8 (z 8), .int .u8 (z 9), .int .u8 (z 10), .int .u8 (z 11), .int .u8 (z 12), .int .u8 (z 13), .int .u8 (z 14), .int .u8 (z 15), .int .u8 (z 16), .int .u8 (z 17), .int .u8 (z 18), .int .u8 (z 19)] 0 w74 H83.out); have H89 := Aside0.mk (far_setCells N76 [.int .u8 (z 0), .int .u8 (z 1), .int .u8 (z 2), .int .u8 (z 3), .int .u8 (z 4), .int .u8 (z 5), .int .u8 (z 6), .int .u8 (z 7), .int .u8 (z 8), .int .u8 (z 9), .int .u8 (z 10), .int .u8 (z 11), .int .u8 (z 12), .int .u8 (z 13), .int .u8 (z 14), .int .u8 (z 15), .int .u8 (z 16), .int .u8 (z 17), .int .u8 (z 18), .int .u8 (z 19)] 0 w74 H84.out); have B90 := Aside0.mk (below_setCells G77 [.int .u8 (z 0), .int .u8 (z 1), .int .u8 (z 2), .int .u8 (z 3), .int .u8 (z 4), .int .u8 (z 5), .int .u8 (z 6), .int .u8 (z 7), .int .u8 (z 8), .int .u8 (z 9), .int .u8 (z 10), .int .u8 (z 11), .int .u8 (z 12), .int .u8 (z 13), .int .u8 (z 14), .int .u8 (z 15), .int .u8 (z 16), .int .u8 (z 17), .int .u8 (z 18), .int .u8 (z 19)] 0 w74 B80.out); have B91 := Aside0.mk (below_setCells G78 [.int .u8 (z 0), .int .u8 (z 1), .int .u8 (z 2), .int .u8 (z 3), .int .u8 (z 4), .int .u8 (z 5), .int .u8 (z 6), .int .u8 (z 7), .int .u8 (z 8), .int .u8 (z 9), .int .u8 (z 10), .int .u8 (z 11), .int .u8 (z 12), .int .u8 (z 13), .int .u8 (z 14), .int .u8 (z 15), .int .u8 (z 16), .int .u8 (z 17), .int .u8 (z 18), .int .u8 (z 19)] 0 w74 B81.out); have B92 := Aside0.mk (below_setCells G79 [.int .u8 (z 0), .int .u8 (z 1), .int .u8 (z 2), .int .u8 (z 3), .int .u8 (z 4), .int .u8 (z 5), .int .u8 (z 6), .int .u8 (z 7), .int .u8 (z 8), .int .u8 (z 9), .int .u8 (z 10), .int .u8 (z 11), .int .u8 (z 12), .int .u8 (z 13), .int .u8 (z 14), .int .u8 (z 15), .int .u8 (z 16), .int .u8 (z 17), .int .u8 (z 18), .int .u8 (z 19)] 0 w74 B82.out); clear H85 H83 H84 B80 B81 B82; generalize World.setCells w74 g73 0 [.int .u8 (z 0), .int .u8 (z 1), .int .u8 (z 2), .int .u8 (z 3), .int .u8 (z 4), .int .u8 (z 5), .int .u8 (z 6), .int .u8 (z 7), .int .u8 (z 8), .int .u8 (z 9), .int .u8 (z 10), .int .u8 (z 11), .int .u8 (z 12), .int .u8 (z 13), .int .u8 (z 14), .int .u8 (z 15), .int .u8 (z 16), .int .u8 (z 17), .int .u8 (z 18), .int .u8 (z 19)] = w86 at H88 H89 H87 B90 B91 B92 ⊢; generalize Value.tuple #[.agg #[.int .u8 (z 0), .int .u8 (z 1), .int .u8 (z 2), .int .u8 (z 3), .int .u8 (z 4), .int .u8 (z 5), .int .u8 (z 6), .int .u8 (z 7), .int .u8 (z 8), .int .u8 (z 9), .int .u8 (z 10), .int .u8 (z 11), .int .u8 (z 12), .int .u8 (z 13), .int .u8 (z 14), .int .u8 (z 15), .int .u8 (z 16), .int .u8 (z 17), .int .u8 (z 18), .int .u8 (z 19)], .int .i64 0] = V93; generalize Value.agg #[.int .u8 (z 0), .int .u8 (z 1), .int .u8 (z 2), .int .u8 (z 3), .int .u8 (z 4), .int .u8 (z 5), .int .u8 (z 6), .int .u8 (z 7), .int .u8 (z 8), .int .u8 (z 9), .int .u8 (z 10), .int .u8 (z 11), .int .u8 (z 12), .int .u8 (z 13), .int .u8 (z 14), .int .u8 (z 15), .int .u8 (z 16), .int .u8 (z 17), .int .u8 (z 18), .int .u8 (z 19)] = V94) | ((with_reducible refine gate_dst (N := 129) rfl ?_); refine loadG_event (T := 23) (by rfl) rfl rfl (run_loadVar_row _ _ _ _ _ (0, 0) _ H87.out Tryd.underlying23 rfl (by kernel_rfl)) ?_))
  refine (Hh7.out w86 rp cp m Hm.out (HhT.out.at B90.out) (Kd.C_below RP.out B91.out)).mono ?_
  rintro e w95 ⟨rfl, hb_⟩
  have B96 := Aside0.mk (below_step B90.out hb_)
  have B97 := Aside0.mk (below_step B91.out hb_)
  have B98 := Aside0.mk (below_step B92.out hb_)
  have H99 := Aside0.mk (blk_below H88.out hb_)
  have H100 := Aside0.mk (blk_below H89.out hb_)
  have H101 := Aside0.mk (blk_below H87.out hb_)
  clear hb_ B90 B91 B92 H88 H89 H87
  go_wp2_with (first | ((with_reducible refine gate_dst (N := 21) rfl ?_); refine box_event ?hg (N := 21) ?hd (cs := #[.int .u8 0, .int .u8 0, .int .u8 0, .int .u8 0, .int .u8 0, .int .u8 0, .int .u8 0, .int .u8 0, .int .u8 0, .int .u8 0, .int .u8 0, .int .u8 0, .int .u8 0, .int .u8 0, .int .u8 0, .int .u8 0, .int .u8 0, .int .u8 0, .int .u8 0, .int .u8 0]) (t := 23) ?hr ?_; (case hd => rfl); (case hg => rfl); (case hr => first | (go_simp; done) | (go_simp; rfl)); intro g102 hgg102 w103 hhg102 hbg102; have H116 := Aside0.mk hhg102; have N104 : g6 ≠ g102 := Nat.ne_of_lt (Nat.lt_of_lt_of_eq (blk_lt H99.out) hgg102.symm); have N105 : g48 ≠ g102 := Nat.ne_of_lt (Nat.lt_of_lt_of_eq (blk_lt H100.out) hgg102.symm); have N106 : g73 ≠ g102 := Nat.ne_of_lt (Nat.lt_of_lt_of_eq (blk_lt H101.out) hgg102.symm); have G107 : w.heap.size ≤ g102 := Nat.le_trans B96.out.size (Nat.le_of_eq hgg102.symm); have G108 : w16.heap.size ≤ g102 := Nat.le_trans B97.out.size (Nat.le_of_eq hgg102.symm); have G109 : w111.heap.size ≤ g102 := Nat.le_trans B98.out.size (Nat.le_of_eq hgg102.symm); have B110 := Aside0.mk (below_step B96.out hbg102); have B111 := Aside0.mk (below_step B97.out hbg102); have B112 := Aside0.mk (below_step B98.out hbg102); have H113 := Aside0.mk (blk_below H99.out hbg102); have H114 := Aside0.mk (blk_below H100.out hbg102); have H115 := Aside0.mk (blk_below H101.out hbg102); clear hgg102 hhg102 hbg102 B96 B97 B98 H99 H100 H101) | ((with_reducible refine gate_store (t := 23) (p := _) rfl ?_); refine storeN_event (T := 23) rfl rfl rfl rfl rfl (storeVar_blk H116.out 23 0 [.int .u8 (y 0), .int .u8 (y 1), .int .u8 (y 2), .int .u8 (y 3), .int .u8 (y 4), .int .u8 (y 5), .int .u8 (y 6), .int .u8 (y 7), .int .u8 (y 8), .int .u8 (y 9), .int .u8 (y 10), .int .u8 (y 11), .int .u8 (y 12), .int .u8 (y 13), .int .u8 (y 14), .int .u8 (y 15), .int .u8 (y 16), .int .u8 (y 17), .int .u8 (y 18), .int .u8 (y 19)] (by kernel_rfl) rfl (by simp)) ?_; have H118 := Aside0.mk (show (World.setCells w103 g102 0 [.int .u8 (y 0), .int .u8 (y 1), .int .u8 (y 2), .int .u8 (y 3), .int .u8 (y 4), .int .u8 (y 5), .int .u8 (y 6), .int .u8 (y 7), .int .u8 (y 8), .int .u8 (y 9), .int .u8 (y 10), .int .u8 (y 11), .int .u8 (y 12), .int .u8 (y 13), .int .u8 (y 14), .int .u8 (y 15), .int .u8 (y 16), .int .u8 (y 17), .int .u8 (y 18), .int .u8 (y 19)]).heap[g102]? = some (.cells #[.int .u8 (y 0), .int .u8 (y 1), .int .u8 (y 2), .int .u8 (y 3), .int .u8 (y 4), .int .u8 (y 5), .int .u8 (y 6), .int .u8 (y 7), .int .u8 (y 8), .int .u8 (y 9), .int .u8 (y 10), .int .u8 (y 11), .int .u8 (y 12), .int .u8 (y 13), .int .u8 (y 14), .int .u8 (y 15), .int .u8 (y 16), .int .u8 (y 17), .int .u8 (y 18), .int .u8 (y 19)] 23 (0, 0)) from blk_setCells [] [.int .u8 (y 0), .int .u8 (y 1), .int .u8 (y 2), .int .u8 (y 3), .int .u8 (y 4), .int .u8 (y 5), .int .u8 (y 6), .int .u8 (y 7), .int .u8 (y 8), .int .u8 (y 9), .int .u8 (y 10), .int .u8 (y 11), .int .u8 (y 12), .int .u8 (y 13), .int .u8 (y 14), .int .u8 (y 15), .int .u8 (y 16), .int .u8 (y 17), .int .u8 (y 18), .int .u8 (y 19)] [.int .u8 0, .int .u8 0, .int .u8 0, .int .u8 0, .int .u8 0, .int .u8 0, .int .u8 0, .int .u8 0, .int .u8 0, .int .u8 0, .int .u8 0, .int .u8 0, .int .u8 0, .int .u8 0, .int .u8 0, .int .u8 0, .int .u8 0, .int .u8 0, .int .u8 0, .int .u8 0] [] w103 rfl H116.out); have H119 := Aside0.mk (far_setCells N104 [.int .u8 (y 0), .int .u8 (y 1), .int .u8 (y 2), .int .u8 (y 3), .int .u8 (y 4), .int .u8 (y 5), .int .u8 (y 6), .int .u8 (y 7), .int .u8 (y 8), .int .u8 (y 9), .int .u8 (y 10), .int .u8 (y 11), .int .u8 (y 12), .int .u8 (y 13), .int .u8 (y 14), .int .u8 (y 15), .int .u8 (y 16), .int .u8 (y 17), .int .u8 (y 18), .int .u8 (y 19)] 0 w103 H113.out); have H120 := Aside0.mk (far_setCells N105 [.int .u8 (y 0), .int .u8 (y 1), .int .u8 (y 2), .int .u8 (y 3), .int .u8 (y 4), .int .u8 (y 5), .int .u8 (y 6), .int .u8 (y 7), .int .u8 (y 8), .int .u8 (y 9), .int .u8 (y 10), .int .u8 (y 11), .int .u8 (y 12), .int .u8 (y 13), .int .u8 (y 14), .int .u8 (y 15), .int .u8 (y 16), .int .u8 (y 17), .int .u8 (y 18), .int .u8 (y 19)] 0 w103 H114.out); have H121 := Aside0.mk (far_setCells N106 [.int .u8 (y 0), .int .u8 (y 1), .int .u8 (y 2), .int .u8 (y 3), .int .u8 (y 4), .int .u8 (y 5), .int .u8 (y 6), .int .u8 (y 7), .int .u8 (y 8), .int .u8 (y 9), .int .u8 (y 10), .int .u8 (y 11), .int .u8 (y 12), .int .u8 (y 13), .int .u8 (y 14), .int .u8 (y 15), .int .u8 (y 16), .int .u8 (y 17), .int .u8 (y 18), .int .u8 (y 19)] 0 w103 H115.out); have B122 := Aside0.mk (below_setCells G107 [.int .u8 (y 0), .int .u8 (y 1), .int .u8 (y 2), .int .u8 (y 3), .int .u8 (y 4), .int .u8 (y 5), .int .u8 (y 6), .int .u8 (y 7), .int .u8 (y 8), .int .u8 (y 9), .int .u8 (y 10), .int .u8 (y 11), .int .u8 (y 12), .int .u8 (y 13), .int .u8 (y 14), .int .u8 (y 15), .int .u8 (y 16), .int .u8 (y 17), .int .u8 (y 18), .int .u8 (y 19)] 0 w103 B110.out); have B123 := Aside0.mk (below_setCells G108 [.int .u8 (y 0), .int .u8 (y 1), .int .u8 (y 2), .int .u8 (y 3), .int .u8 (y 4), .int .u8 (y 5), .int .u8 (y 6), .int .u8 (y 7), .int .u8 (y 8), .int .u8 (y 9), .int .u8 (y 10), .int .u8 (y 11), .int .u8 (y 12), .int .u8 (y 13), .int .u8 (y 14), .int .u8 (y 15), .int .u8 (y 16), .int .u8 (y 17), .int .u8 (y 18), .int .u8 (y 19)] 0 w103 B111.out); have B124 := Aside0.mk (below_setCells G109 [.int .u8 (y 0), .int .u8 (y 1), .int .u8 (y 2), .int .u8 (y 3), .int .u8 (y 4), .int .u8 (y 5), .int .u8 (y 6), .int .u8 (y 7), .int .u8 (y 8), .int .u8 (y 9), .int .u8 (y 10), .int .u8 (y 11), .int .u8 (y 12), .int .u8 (y 13), .int .u8 (y 14), .int .u8 (y 15), .int .u8 (y 16), .int .u8 (y 17), .int .u8 (y 18), .int .u8 (y 19)] 0 w103 B112.out); clear H116 H113 H114 H115 B110 B111 B112; generalize World.setCells w103 g102 0 [.int .u8 (y 0), .int .u8 (y 1), .int .u8 (y 2), .int .u8 (y 3), .int .u8 (y 4), .int .u8 (y 5), .int .u8 (y 6), .int .u8 (y 7), .int .u8 (y 8), .int .u8 (y 9), .int .u8 (y 10), .int .u8 (y 11), .int .u8 (y 12), .int .u8 (y 13), .int .u8 (y 14), .int .u8 (y 15), .int .u8 (y 16), .int .u8 (y 17), .int .u8 (y 18), .int .u8 (y 19)] = w117 at H119 H120 H121 H118 B122 B123 B124 ⊢; generalize Value.tuple #[.agg #[.int .u8 (y 0), .int .u8 (y 1), .int .u8 (y 2), .int .u8 (y 3), .int .u8 (y 4), .int .u8 (y 5), .int .u8 (y 6), .int .u8 (y 7), .int .u8 (y 8), .int .u8 (y 9), .int .u8 (y 10), .int .u8 (y 11), .int .u8 (y 12), .int .u8 (y 13), .int .u8 (y 14), .int .u8 (y 15), .int .u8 (y 16), .int .u8 (y 17), .int .u8 (y 18), .int .u8 (y 19)], .int .i64 0] = V125; generalize Value.agg #[.int .u8 (y 0), .int .u8 (y 1), .int .u8 (y 2), .int .u8 (y 3), .int .u8 (y 4), .int .u8 (y 5), .int .u8 (y 6), .int .u8 (y 7), .int .u8 (y 8), .int .u8 (y 9), .int .u8 (y 10), .int .u8 (y 11), .int .u8 (y 12), .int .u8 (y 13), .int .u8 (y 14), .int .u8 (y 15), .int .u8 (y 16), .int .u8 (y 17), .int .u8 (y 18), .int .u8 (y 19)] = V126))
  refine (Hh8.out w117 (some ad2) cap2 (HhT.out.at B122.out) (Hhrows.out w117 _ B122.out (Kd.C_below HCR.out B124.out)) HLE.out).mono ?_
  rintro e w127 ⟨vq_, rfl, hR_, hb_⟩
  have B128 := Aside0.mk (below_step B122.out hb_)
  have B129 := Aside0.mk (below_step B123.out hb_)
  have B130 := Aside0.mk (below_step B124.out hb_)
  have H131 := Aside0.mk (blk_below H119.out hb_)
  have H132 := Aside0.mk (blk_below H120.out hb_)
  have H133 := Aside0.mk (blk_below H121.out hb_)
  have H134 := Aside0.mk (blk_below H118.out hb_)
  clear hb_ B122 B123 B124 H119 H120 H121 H118
  obtain ⟨rq, cq, rfl, hle_, hC_⟩ := Kd.R_reads hR_
  have BWQ := Aside0.mk B128.out
  have RQ := Aside0.mk hC_
  have LQ := Aside0.mk hle_
  clear hC_ hle_ hR_
  go_wp2_with (first | ((with_reducible refine gate_dst (N := 154) rfl ?_); refine loadG_event (T := 23) (by rfl) rfl rfl (run_loadVar_row _ _ _ _ _ (0, 0) _ H134.out Tryd.underlying23 rfl (by kernel_rfl)) ?_) | ((with_reducible refine gate_dst (N := 155) rfl ?_); refine loadG_event (T := 23) (by rfl) rfl rfl (run_loadVar_row _ _ _ _ _ (0, 0) _ H132.out Tryd.underlying23 rfl (by kernel_rfl)) ?_))
  have HM := Hm.out
  subst HM
  refine (same_sums rq rp cq cp ps w127 (Kd.C_below RQ.out (Below.refl _ _)) (Kd.C_below RP.out B129.out) (by have := Hhm10.out; omega)).mono ?_
  rintro e w135 ⟨rfl, hb_⟩
  have B136 := Aside0.mk (below_step B128.out hb_)
  have B137 := Aside0.mk (below_step B129.out hb_)
  have B138 := Aside0.mk (below_step B130.out hb_)
  have B139 := Aside0.mk (hb_)
  have H140 := Aside0.mk (blk_below H131.out hb_)
  have H141 := Aside0.mk (blk_below H132.out hb_)
  have H142 := Aside0.mk (blk_below H133.out hb_)
  have H143 := Aside0.mk (blk_below H134.out hb_)
  clear hb_ B128 B129 B130 H131 H132 H133 H134
  go_wp2_with fail
  go_ret
  exact ⟨rfl, B136.out⟩
end Go.Proofs.YtbldecdipicddaaDoor.Hand
