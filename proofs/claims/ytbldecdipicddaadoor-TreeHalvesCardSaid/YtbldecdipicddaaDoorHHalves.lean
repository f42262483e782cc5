/- The walks of the law TreeHalves. Written by wip/s1/mkhalves.py. -/
import Derived.Test.YtbldecdipicddaaDoorHFit
set_option linter.unusedSimpArgs false
set_option linter.unusedVariables false
namespace Go.Proofs.YtbldecdipicddaaDoor.Hand
open Go Go.RowKit Go.Proofs.YtbldecdipicddaaDoorW.PrintWords Go.Proofs.YtbldecdipicddaaDoorW.PrintLast
set_option maxHeartbeats 3200000 in
set_option maxRecDepth 100000 in
theorem halves_nofit (A : Option Addr) (c : Nat) (ll : List (List Int)) (i : Int) (w : World) (hT : TabQ w) (hr : Kd.C (Kd.slice 5 (Kd.int .u8)) w A ll.length ll) (hlc : ll.length ≤ c) (hal : ∀ W : World, TabQ W → Calls Tryd.prog 33 #[] W fun e w' => e = .returned (.bool true) ∧ Below W.heap.size W w') (hf : fitb ll = false) (hw : True) :
    Calls Tryd.prog 19 #[.slice A ll.length c, .int .i64 i] w fun e w' => e = .returned (.bool true) ∧ Below w.heap.size w w' := by
  have HhT := Aside0.mk hT
  have Hhr := Aside0.mk hr
  have Hhlc := Aside0.mk hlc
  have Hhal := Aside0.mk hal
  have Hhf := Aside0.mk hf
  clear hT hr hlc hal hf hw 
  go_enter Tryd.func19, Tryd.ntmps19
  go_wp2_with fail
  refine (Hhal.out w (HhT.out.at (Below.refl _ _))).mono ?_
  rintro e w1 ⟨rfl, hb_⟩
  have B2 := Aside0.mk (hb_)
  clear hb_
  go_wp2_with fail
  refine (fit_calls A c ll _ (Kd.C_below Hhr.out B2.out) Hhlc.out).mono ?_
  rintro e w3 ⟨rfl, hw_⟩
  obtain rfl : w1 = w3 := hw_.symm
  rw [Hhf.out]
  go_wp2_with fail
  go_ret
  exact ⟨rfl, B2.out⟩
set_option maxHeartbeats 3200000 in
set_option maxRecDepth 100000 in
theorem halves_few (A : Option Addr) (c : Nat) (ll : List (List Int)) (i : Int) (w : World) (hT : TabQ w) (hr : Kd.C (Kd.slice 5 (Kd.int .u8)) w A ll.length ll) (hlc : ll.length ≤ c) (hal : ∀ W : World, TabQ W → Calls Tryd.prog 33 #[] W fun e w' => e = .returned (.bool true) ∧ Below W.heap.size W w') (hf : fitb ll = true) (hw : ll.length < 2) :
    Calls Tryd.prog 19 #[.slice A ll.length c, .int .i64 i] w fun e w' => e = .returned (.bool true) ∧ Below w.heap.size w w' := by
  have HhT := Aside0.mk hT
  have Hhr := Aside0.mk hr
  have Hhlc := Aside0.mk hlc
  have Hhal := Aside0.mk hal
  have Hhf := Aside0.mk hf
  have n2a : ((((ll.length : Nat) : Int) : Int) < (2 : Int)) = True := eq_true (by omega)
  have n2b : ((2 : Int) ≤ (((ll.length : Nat) : Int) : Int)) = False := eq_false (by omega)
  have n2c : (ll.length < 2) = True := eq_true (by omega)
  have n2d : (2 ≤ ll.length) = False := eq_false (by omega)
  clear hT hr hlc hal hf hw 
  go_enter Tryd.func19, Tryd.ntmps19
  go_wp2_with fail
  refine (Hhal.out w (HhT.out.at (Below.refl _ _))).mono ?_
  rintro e w1 ⟨rfl, hb_⟩
  have B2 := Aside0.mk (hb_)
  clear hb_
  go_wp2_with fail
  refine (fit_calls A c ll _ (Kd.C_below Hhr.out B2.out) Hhlc.out).mono ?_
  rintro e w3 ⟨rfl, hw_⟩
  obtain rfl : w1 = w3 := hw_.symm
  rw [Hhf.out]
  go_wp2_with fail
  go_ret
  exact ⟨rfl, B2.out⟩
set_option maxHeartbeats 3200000 in
set_option maxRecDepth 100000 in
theorem halves_neg (A : Option Addr) (c : Nat) (ll : List (List Int)) (i : Int) (w : World) (hT : TabQ w) (hr : Kd.C (Kd.slice 5 (Kd.int .u8)) w A ll.length ll) (hlc : ll.length ≤ c) (hal : ∀ W : World, TabQ W → Calls Tryd.prog 33 #[] W fun e w' => e = .returned (.bool true) ∧ Below W.heap.size W w') (hf : fitb ll = true) (hw : 2 ≤ ll.length ∧ i < 0) :
    Calls Tryd.prog 19 #[.slice A ll.length c, .int .i64 i] w fun e w' => e = .returned (.bool true) ∧ Below w.heap.size w w' := by
  have HhT := Aside0.mk hT
  have Hhr := Aside0.mk hr
  have Hhlc := Aside0.mk hlc
  have Hhal := Aside0.mk hal
  have Hhf := Aside0.mk hf
  have n2a : ((((ll.length : Nat) : Int) : Int) < (2 : Int)) = False := eq_false (by omega)
  have n2b : ((2 : Int) ≤ (((ll.length : Nat) : Int) : Int)) = True := eq_true (by omega)
  have n2c : (ll.length < 2) = False := eq_false (by omega)
  have n2d : (2 ≤ ll.length) = True := eq_true (by omega)
  have i0a : ((i : Int) < (0 : Int)) = True := eq_true (by omega)
  have i0b : ((0 : Int) ≤ (i : Int)) = False := eq_false (by omega)
  clear hT hr hlc hal hf hw 
  go_enter Tryd.func19, Tryd.ntmps19
  go_wp2_with fail
  refine (Hhal.out w (HhT.out.at (Below.refl _ _))).mono ?_
  rintro e w1 ⟨rfl, hb_⟩
  have B2 := Aside0.mk (hb_)
  clear hb_
  go_wp2_with fail
  refine (fit_calls A c ll _ (Kd.C_below Hhr.out B2.out) Hhlc.out).mono ?_
  rintro e w3 ⟨rfl, hw_⟩
  obtain rfl : w1 = w3 := hw_.symm
  rw [Hhf.out]
  go_wp2_with fail
  go_ret
  exact ⟨rfl, B2.out⟩
set_option maxHeartbeats 3200000 in
set_option maxRecDepth 100000 in
theorem halves_big (A : Option Addr) (c : Nat) (ll : List (List Int)) (i : Int) (w : World) (hT : TabQ w) (hr : Kd.C (Kd.slice 5 (Kd.int .u8)) w A ll.length ll) (hlc : ll.length ≤ c) (hal : ∀ W : World, TabQ W → Calls Tryd.prog 33 #[] W fun e w' => e = .returned (.bool true) ∧ Below W.heap.size W w') (hf : fitb ll = true) (hw : 2 ≤ ll.length ∧ 0 ≤ i ∧ (ll.length : Int) ≤ i) :
    Calls Tryd.prog 19 #[.slice A ll.length c, .int .i64 i] w fun e w' => e = .returned (.bool true) ∧ Below w.heap.size w w' := by
  have HhT := Aside0.mk hT
  have Hhr := Aside0.mk hr
  have Hhlc := Aside0.mk hlc
  have Hhal := Aside0.mk hal
  have Hhf := Aside0.mk hf
  have n2a : ((((ll.length : Nat) : Int) : Int) < (2 : Int)) = False := eq_false (by omega)
  have n2b : ((2 : Int) ≤ (((ll.length : Nat) : Int) : Int)) = True := eq_true (by omega)
  have n2c : (ll.length < 2) = False := eq_false (by omega)
  have n2d : (2 ≤ ll.length) = True := eq_true (by omega)
  have i0a : ((i : Int) < (0 : Int)) = False := eq_false (by omega)
  have i0b : ((0 : Int) ≤ (i : Int)) = True := eq_true (by omega)
  have ina : ((i : Int) < (((ll.length : Nat) : Int) : Int)) = False := eq_false (by omega)
  have inb : ((((ll.length : Nat) : Int) : Int) ≤ (i : Int)) = True := eq_true (by omega)
  clear hT hr hlc hal hf hw 
  go_enter Tryd.func19, Tryd.ntmps19
  go_wp2_with fail
  refine (Hhal.out w (HhT.out.at (Below.refl _ _))).mono ?_
  rintro e w1 ⟨rfl, hb_⟩
  have B2 := Aside0.mk (hb_)
  clear hb_
  go_wp2_with fail
  refine (fit_calls A c ll _ (Kd.C_below Hhr.out B2.out) Hhlc.out).mono ?_
  rintro e w3 ⟨rfl, hw_⟩
  obtain rfl : w1 = w3 := hw_.symm
  rw [Hhf.out]
  go_wp2_with fail
  go_ret
  exact ⟨rfl, B2.out⟩
set_option maxHeartbeats 3200000 in
set_option maxRecDepth 100000 in
theorem halves_left (A : Option Addr) (c : Nat) (ll : List (List Int)) (i k : Nat) (A2 : Option Addr) (w : World) (hT : TabQ w) (hr : Kd.C (Kd.slice 5 (Kd.int .u8)) w A ll.length ll) (hlc : ll.length ≤ c) (hal : ∀ W : World, TabQ W → Calls Tryd.prog 33 #[] W fun e w' => e = .returned (.bool true) ∧ Below W.heap.size W w') (hf : fitb ll = true) (hw : 2 ≤ ll.length ∧ i < ll.length ∧ k ≤ ll.length ∧ i < k) (hi20 : ll.length ≤ 20)
    (r a b : Dg) (ps ph : List Dg) (hps : ps = ph ++ [b]) (hp : ph.length ≤ 1000) (hcut2 : ∀ W : World, (Instr.slice 51 (.slice A ll.length c) (some (.int .i64 (k : Int))) none none).run Tryd.prog W = .ok (.slice A2 (ll.length - k) (c - k)) W)
    (hhalf : ∀ W : World, Calls Tryd.prog 64 #[.int .i64 (ll.length : Int)] W fun e w' => e = .returned (.int .i64 (k : Int)) ∧ Below W.heap.size W w') (h1 : ∀ W : World, TabQ W → Below w.heap.size w W → Calls Tryd.prog 35 #[.slice A ll.length c] W fun e w' => e = .returned (.tuple #[.agg #[.int .u8 (r 0), .int .u8 (r 1), .int .u8 (r 2), .int .u8 (r 3), .int .u8 (r 4), .int .u8 (r 5), .int .u8 (r 6), .int .u8 (r 7), .int .u8 (r 8), .int .u8 (r 9), .int .u8 (r 10), .int .u8 (r 11), .int .u8 (r 12), .int .u8 (r 13), .int .u8 (r 14), .int .u8 (r 15), .int .u8 (r 16), .int .u8 (r 17), .int .u8 (r 18), .int .u8 (r 19)], .int .i64 0]) ∧ Below W.heap.size W w') (h2 : ∀ W : World, TabQ W → Below w.heap.size w W → Calls Tryd.prog 35 #[.slice A k c] W fun e w' => e = .returned (.tuple #[.agg #[.int .u8 (a 0), .int .u8 (a 1), .int .u8 (a 2), .int .u8 (a 3), .int .u8 (a 4), .int .u8 (a 5), .int .u8 (a 6), .int .u8 (a 7), .int .u8 (a 8), .int .u8 (a 9), .int .u8 (a 10), .int .u8 (a 11), .int .u8 (a 12), .int .u8 (a 13), .int .u8 (a 14), .int .u8 (a 15), .int .u8 (a 16), .int .u8 (a 17), .int .u8 (a 18), .int .u8 (a 19)], .int .i64 0]) ∧ Below W.heap.size W w') (h3 : ∀ W : World, TabQ W → Below w.heap.size w W → Calls Tryd.prog 35 #[.slice A2 (ll.length - k) (c - k)] W fun e w' => e = .returned (.tuple #[.agg #[.int .u8 (b 0), .int .u8 (b 1), .int .u8 (b 2), .int .u8 (b 3), .int .u8 (b 4), .int .u8 (b 5), .int .u8 (b 6), .int .u8 (b 7), .int .u8 (b 8), .int .u8 (b 9), .int .u8 (b 10), .int .u8 (b 11), .int .u8 (b 12), .int .u8 (b 13), .int .u8 (b 14), .int .u8 (b 15), .int .u8 (b 16), .int .u8 (b 17), .int .u8 (b 18), .int .u8 (b 19)], .int .i64 0]) ∧ Below W.heap.size W w') (h4 : ∀ W : World, TabQ W → Calls Tryd.prog 65 #[.agg #[.int .u8 (a 0), .int .u8 (a 1), .int .u8 (a 2), .int .u8 (a 3), .int .u8 (a 4), .int .u8 (a 5), .int .u8 (a 6), .int .u8 (a 7), .int .u8 (a 8), .int .u8 (a 9), .int .u8 (a 10), .int .u8 (a 11), .int .u8 (a 12), .int .u8 (a 13), .int .u8 (a 14), .int .u8 (a 15), .int .u8 (a 16), .int .u8 (a 17), .int .u8 (a 18), .int .u8 (a 19)], .agg #[.int .u8 (b 0), .int .u8 (b 1), .int .u8 (b 2), .int .u8 (b 3), .int .u8 (b 4), .int .u8 (b 5), .int .u8 (b 6), .int .u8 (b 7), .int .u8 (b 8), .int .u8 (b 9), .int .u8 (b 10), .int .u8 (b 11), .int .u8 (b 12), .int .u8 (b 13), .int .u8 (b 14), .int .u8 (b 15), .int .u8 (b 16), .int .u8 (b 17), .int .u8 (b 18), .int .u8 (b 19)]] W fun e w' => e = .returned (.tuple #[.agg #[.int .u8 (r 0), .int .u8 (r 1), .int .u8 (r 2), .int .u8 (r 3), .int .u8 (r 4), .int .u8 (r 5), .int .u8 (r 6), .int .u8 (r 7), .int .u8 (r 8), .int .u8 (r 9), .int .u8 (r 10), .int .u8 (r 11), .int .u8 (r 12), .int .u8 (r 13), .int .u8 (r 14), .int .u8 (r 15), .int .u8 (r 16), .int .u8 (r 17), .int .u8 (r 18), .int .u8 (r 19)], .int .i64 0]) ∧ Below W.heap.size W w') (h5 : ∀ W : World, TabQ W → Below w.heap.size w W → Calls Tryd.prog 36 #[.slice A ll.length c, .int .i64 (i : Int)] W fun e w' => ∃ v0_ : Value, e = .returned (.tuple #[v0_, .int .i64 0]) ∧ Kd.R kdg 23 w' W.heap.size (fun _ => True) v0_ ps ∧ Below W.heap.size W w') (h6 : ∀ W : World, TabQ W → Below w.heap.size w W → Calls Tryd.prog 36 #[.slice A k c, .int .i64 (i : Int)] W fun e w' => ∃ v0_ : Value, e = .returned (.tuple #[v0_, .int .i64 0]) ∧ Kd.R kdg 23 w' W.heap.size (fun _ => True) v0_ ph ∧ Below W.heap.size W w') :
    Calls Tryd.prog 19 #[.slice A ll.length c, .int .i64 (i : Int)] w fun e w' => e = .returned (.bool true) ∧ Below w.heap.size w w' := by
  have HhT := Aside0.mk hT
  have Hhr := Aside0.mk hr
  have Hhlc := Aside0.mk hlc
  have Hhal := Aside0.mk hal
  have Hhf := Aside0.mk hf
  have Hh1 := Aside0.mk h1
  have Hh2 := Aside0.mk h2
  have Hh3 := Aside0.mk h3
  have Hh4 := Aside0.mk h4
  have Hh5 := Aside0.mk h5
  have Hh6 := Aside0.mk h6
  have Hhhalf := Aside0.mk hhalf
  have Hhp := Aside0.mk hp
  have Hhps := Aside0.mk hps
  have n2a : ((((ll.length : Nat) : Int) : Int) < (2 : Int)) = False := eq_false (by omega)
  have n2b : ((2 : Int) ≤ (((ll.length : Nat) : Int) : Int)) = True := eq_true (by omega)
  have n2c : (ll.length < 2) = False := eq_false (by omega)
  have n2d : (2 ≤ ll.length) = True := eq_true (by omega)
  have i0a : ((((i : Nat) : Int) : Int) < (0 : Int)) = False := eq_false (by omega)
  have i0b : ((0 : Int) ≤ (((i : Nat) : Int) : Int)) = True := eq_true (by omega)
  have ina : ((((i : Nat) : Int) : Int) < (((ll.length : Nat) : Int) : Int)) = True := eq_true (by omega)
  have inb : ((((ll.length : Nat) : Int) : Int) ≤ (((i : Nat) : Int) : Int)) = False := eq_false (by omega)
  have inc : (i < ll.length) = True := eq_true (by omega)
  have ind : (ll.length ≤ i) = False := eq_false (by omega)
  have ika : ((((i : Nat) : Int) : Int) < (((k : Nat) : Int) : Int)) = True := eq_true (by omega)
  have ikb : ((((k : Nat) : Int) : Int) ≤ (((i : Nat) : Int) : Int)) = False := eq_false (by omega)
  have ikc : (i < k) = True := eq_true (by omega)
  have ikd : (k ≤ i) = False := eq_false (by omega)
  have hcut := fun W : World => cut51 A ll.length c k (by omega) hlc W
  clear hT hr hlc hal hf hw h1 h2 h3 h4 h5 h6 hhalf hp hps
  have hqr := fun (k : Nat) (W : World) => eqA23 k W (r 0) (r 0) (r 1) (r 1) (r 2) (r 2) (r 3) (r 3) (r 4) (r 4) (r 5) (r 5) (r 6) (r 6) (r 7) (r 7) (r 8) (r 8) (r 9) (r 9) (r 10) (r 10) (r 11) (r 11) (r 12) (r 12) (r 13) (r 13) (r 14) (r 14) (r 15) (r 15) (r 16) (r 16) (r 17) (r 17) (r 18) (r 18) (r 19) (r 19)
  simp only [beq_self_eq_true, Bool.and_self] at hqr
  go_enter Tryd.func19, Tryd.ntmps19
  go_wp2_with fail
  refine (Hhal.out w (HhT.out.at (Below.refl _ _))).mono ?_
  rintro e w1 ⟨rfl, hb_⟩
  have B2 := Aside0.mk (hb_)
  clear hb_
  go_wp2_with fail
  refine (fit_calls A c ll _ (Kd.C_below Hhr.out B2.out) Hhlc.out).mono ?_
  rintro e w3 ⟨rfl, hw_⟩
  obtain rfl : w1 = w3 := hw_.symm
  rw [Hhf.out]
  go_wp2_with fail
  refine (Hhhalf.out w1).mono ?_
  rintro e w4 ⟨rfl, hb_⟩
  have B5 := Aside0.mk (below_step B2.out hb_)
  clear hb_ B2
  go_wp2_with fail
  refine (Hh1.out w4 (HhT.out.at B5.out) B5.out).mono ?_
  rintro e w6 ⟨rfl, hb_⟩
  have B7 := Aside0.mk (below_step B5.out hb_)
  clear hb_ B5
  go_wp2_with (first | ((with_reducible refine gate_dst (N := 7) rfl ?_); refine box_event ?hg (N := 7) ?hd (cs := #[.int .u8 0, .int .u8 0, .int .u8 0, .int .u8 0, .int .u8 0, .int .u8 0, .int .u8 0, .int .u8 0, .int .u8 0, .int .u8 0, .int .u8 0, .int .u8 0, .int .u8 0, .int .u8 0, .int .u8 0, .int .u8 0, .int .u8 0, .int .u8 0, .int .u8 0, .int .u8 0]) (t := 23) ?hr ?_; (case hd => rfl); (case hg => rfl); (case hr => first | (go_simp; done) | (go_simp; rfl)); intro g8 hgg8 w9 hhg8 hbg8; have H12 := Aside0.mk hhg8; have G10 : w.heap.size ≤ g8 := Nat.le_trans B7.out.size (Nat.le_of_eq hgg8.symm); have B11 := Aside0.mk (below_step B7.out hbg8); clear hgg8 hhg8 hbg8 B7) | ((with_reducible refine gate_store (t := 23) (p := _) rfl ?_); refine storeN_event (T := 23) rfl rfl rfl rfl rfl (storeVar_blk H12.out 23 0 [.int .u8 (r 0), .int .u8 (r 1), .int .u8 (r 2), .int .u8 (r 3), .int .u8 (r 4), .int .u8 (r 5), .int .u8 (r 6), .int .u8 (r 7), .int .u8 (r 8), .int .u8 (r 9), .int .u8 (r 10), .int .u8 (r 11), .int .u8 (r 12), .int .u8 (r 13), .int .u8 (r 14), .int .u8 (r 15), .int .u8 (r 16), .int .u8 (r 17), .int .u8 (r 18), .int .u8 (r 19)] (by kernel_rfl) rfl (by simp)) ?_; have H14 := Aside0.mk (show (World.setCells w9 g8 0 [.int .u8 (r 0), .int .u8 (r 1), .int .u8 (r 2), .int .u8 (r 3), .int .u8 (r 4), .int .u8 (r 5), .int .u8 (r 6), .int .u8 (r 7), .int .u8 (r 8), .int .u8 (r 9), .int .u8 (r 10), .int .u8 (r 11), .int .u8 (r 12), .int .u8 (r 13), .int .u8 (r 14), .int .u8 (r 15), .int .u8 (r 16), .int .u8 (r 17), .int .u8 (r 18), .int .u8 (r 19)]).heap[g8]? = some (.cells #[.int .u8 (r 0), .int .u8 (r 1), .int .u8 (r 2), .int .u8 (r 3), .int .u8 (r 4), .int .u8 (r 5), .int .u8 (r 6), .int .u8 (r 7), .int .u8 (r 8), .int .u8 (r 9), .int .u8 (r 10), .int .u8 (r 11), .int .u8 (r 12), .int .u8 (r 13), .int .u8 (r 14), .int .u8 (r 15), .int .u8 (r 16), .int .u8 (r 17), .int .u8 (r 18), .int .u8 (r 19)] 23 (0, 0)) from blk_setCells [] [.int .u8 (r 0), .int .u8 (r 1), .int .u8 (r 2), .int .u8 (r 3), .int .u8 (r 4), .int .u8 (r 5), .int .u8 (r 6), .int .u8 (r 7), .int .u8 (r 8), .int .u8 (r 9), .int .u8 (r 10), .int .u8 (r 11), .int .u8 (r 12), .int .u8 (r 13), .int .u8 (r 14), .int .u8 (r 15), .int .u8 (r 16), .int .u8 (r 17), .int .u8 (r 18), .int .u8 (r 19)] [.int .u8 0, .int .u8 0, .int .u8 0, .int .u8 0, .int .u8 0, .int .u8 0, .int .u8 0, .int .u8 0, .int .u8 0, .int .u8 0, .int .u8 0, .int .u8 0, .int .u8 0, .int .u8 0, .int .u8 0, .int .u8 0, .int .u8 0, .int .u8 0, .int .u8 0, .int .u8 0] [] w9 rfl H12.out); have B15 := Aside0.mk (below_setCells G10 [.int .u8 (r 0), .int .u8 (r 1), .int .u8 (r 2), .int .u8 (r 3), .int .u8 (r 4), .int .u8 (r 5), .int .u8 (r 6), .int .u8 (r 7), .int .u8 (r 8), .int .u8 (r 9), .int .u8 (r 10), .int .u8 (r 11), .int .u8 (r 12), .int .u8 (r 13), .int .u8 (r 14), .int .u8 (r 15), .int .u8 (r 16), .int .u8 (r 17), .int .u8 (r 18), .int .u8 (r 19)] 0 w9 B11.out); clear H12 B11; generalize World.setCells w9 g8 0 [.int .u8 (r 0), .int .u8 (r 1), .int .u8 (r 2), .int .u8 (r 3), .int .u8 (r 4), .int .u8 (r 5), .int .u8 (r 6), .int .u8 (r 7), .int .u8 (r 8), .int .u8 (r 9), .int .u8 (r 10), .int .u8 (r 11), .int .u8 (r 12), .int .u8 (r 13), .int .u8 (r 14), .int .u8 (r 15), .int .u8 (r 16), .int .u8 (r 17), .int .u8 (r 18), .int .u8 (r 19)] = w13 at H14 B15 ⊢; generalize Value.tuple #[.agg #[.int .u8 (r 0), .int .u8 (r 1), .int .u8 (r 2), .int .u8 (r 3), .int .u8 (r 4), .int .u8 (r 5), .int .u8 (r 6), .int .u8 (r 7), .int .u8 (r 8), .int .u8 (r 9), .int .u8 (r 10), .int .u8 (r 11), .int .u8 (r 12), .int .u8 (r 13), .int .u8 (r 14), .int .u8 (r 15), .int .u8 (r 16), .int .u8 (r 17), .int .u8 (r 18), .int .u8 (r 19)], .int .i64 0] = V16; generalize Value.agg #[.int .u8 (r 0), .int .u8 (r 1), .int .u8 (r 2), .int .u8 (r 3), .int .u8 (r 4), .int .u8 (r 5), .int .u8 (r 6), .int .u8 (r 7), .int .u8 (r 8), .int .u8 (r 9), .int .u8 (r 10), .int .u8 (r 11), .int .u8 (r 12), .int .u8 (r 13), .int .u8 (r 14), .int .u8 (r 15), .int .u8 (r 16), .int .u8 (r 17), .int .u8 (r 18), .int .u8 (r 19)] = V17))
  refine (Hh2.out w13 (HhT.out.at B15.out) B15.out).mono ?_
  rintro e w18 ⟨rfl, hb_⟩
  have B19 := Aside0.mk (below_step B15.out hb_)
  have H20 := Aside0.mk (blk_below H14.out hb_)
  clear hb_ B15 H14
  go_wp2_with (first | ((with_reducible refine gate_dst (N := 9) rfl ?_); refine box_event ?hg (N := 9) ?hd (cs := #[.int .u8 0, .int .u8 0, .int .u8 0, .int .u8 0, .int .u8 0, .int .u8 0, .int .u8 0, .int .u8 0, .int .u8 0, .int .u8 0, .int .u8 0, .int .u8 0, .int .u8 0, .int .u8 0, .int .u8 0, .int .u8 0, .int .u8 0, .int .u8 0, .int .u8 0, .int .u8 0]) (t := 23) ?hr ?_; (case hd => rfl); (case hg => rfl); (case hr => first | (go_simp; done) | (go_simp; rfl)); intro g21 hgg21 w22 hhg21 hbg21; have H27 := Aside0.mk hhg21; have N23 : g8 ≠ g21 := Nat.ne_of_lt (Nat.lt_of_lt_of_eq (blk_lt H20.out) hgg21.symm); have G24 : w.heap.size ≤ g21 := Nat.le_trans B19.out.size (Nat.le_of_eq hgg21.symm); have B25 := Aside0.mk (below_step B19.out hbg21); have H26 := Aside0.mk (blk_below H20.out hbg21); clear hgg21 hhg21 hbg21 B19 H20) | ((with_reducible refine gate_store (t := 23) (p := _) rfl ?_); refine storeN_event (T := 23) rfl rfl rfl rfl rfl (storeVar_blk H27.out 23 0 [.int .u8 (a 0), .int .u8 (a 1), .int .u8 (a 2), .int .u8 (a 3), .int .u8 (a 4), .int .u8 (a 5), .int .u8 (a 6), .int .u8 (a 7), .int .u8 (a 8), .int .u8 (a 9), .int .u8 (a 10), .int .u8 (a 11), .int .u8 (a 12), .int .u8 (a 13), .int .u8 (a 14), .int .u8 (a 15), .int .u8 (a 16), .int .u8 (a 17), .int .u8 (a 18), .int .u8 (a 19)] (by kernel_rfl) rfl (by simp)) ?_; have H29 := Aside0.mk (show (World.setCells w22 g21 0 [.int .u8 (a 0), .int .u8 (a 1), .int .u8 (a 2), .int .u8 (a 3), .int .u8 (a 4), .int .u8 (a 5), .int .u8 (a 6), .int .u8 (a 7), .int .u8 (a 8), .int .u8 (a 9), .int .u8 (a 10), .int .u8 (a 11), .int .u8 (a 12), .int .u8 (a 13), .int .u8 (a 14), .int .u8 (a 15), .int .u8 (a 16), .int .u8 (a 17), .int .u8 (a 18), .int .u8 (a 19)]).heap[g21]? = some (.cells #[.int .u8 (a 0), .int .u8 (a 1), .int .u8 (a 2), .int .u8 (a 3), .int .u8 (a 4), .int .u8 (a 5), .int .u8 (a 6), .int .u8 (a 7), .int .u8 (a 8), .int .u8 (a 9), .int .u8 (a 10), .int .u8 (a 11), .int .u8 (a 12), .int .u8 (a 13), .int .u8 (a 14), .int .u8 (a 15), .int .u8 (a 16), .int .u8 (a 17), .int .u8 (a 18), .int .u8 (a 19)] 23 (0, 0)) from blk_setCells [] [.int .u8 (a 0), .int .u8 (a 1), .int .u8 (a 2), .int .u8 (a 3), .int .u8 (a 4), .int .u8 (a 5), .int .u8 (a 6), .int .u8 (a 7), .int .u8 (a 8), .int .u8 (a 9), .int .u8 (a 10), .int .u8 (a 11), .int .u8 (a 12), .int .u8 (a 13), .int .u8 (a 14), .int .u8 (a 15), .int .u8 (a 16), .int .u8 (a 17), .int .u8 (a 18), .int .u8 (a 19)] [.int .u8 0, .int .u8 0, .int .u8 0, .int .u8 0, .int .u8 0, .int .u8 0, .int .u8 0, .int .u8 0, .int .u8 0, .int .u8 0, .int .u8 0, .int .u8 0, .int .u8 0, .int .u8 0, .int .u8 0, .int .u8 0, .int .u8 0, .int .u8 0, .int .u8 0, .int .u8 0] [] w22 rfl H27.out); have H30 := Aside0.mk (far_setCells N23 [.int .u8 (a 0), .int .u8 (a 1), .int .u8 (a 2), .int .u8 (a 3), .int .u8 (a 4), .int .u8 (a 5), .int .u8 (a 6), .int .u8 (a 7), .int .u8 (a 8), .int .u8 (a 9), .int .u8 (a 10), .int .u8 (a 11), .int .u8 (a 12), .int .u8 (a 13), .int .u8 (a 14), .int .u8 (a 15), .int .u8 (a 16), .int .u8 (a 17), .int .u8 (a 18), .int .u8 (a 19)] 0 w22 H26.out); have B31 := Aside0.mk (below_setCells G24 [.int .u8 (a 0), .int .u8 (a 1), .int .u8 (a 2), .int .u8 (a 3), .int .u8 (a 4), .int .u8 (a 5), .int .u8 (a 6), .int .u8 (a 7), .int .u8 (a 8), .int .u8 (a 9), .int .u8 (a 10), .int .u8 (a 11), .int .u8 (a 12), .int .u8 (a 13), .int .u8 (a 14), .int .u8 (a 15), .int .u8 (a 16), .int .u8 (a 17), .int .u8 (a 18), .int .u8 (a 19)] 0 w22 B25.out); clear H27 H26 B25; generalize World.setCells w22 g21 0 [.int .u8 (a 0), .int .u8 (a 1), .int .u8 (a 2), .int .u8 (a 3), .int .u8 (a 4), .int .u8 (a 5), .int .u8 (a 6), .int .u8 (a 7), .int .u8 (a 8), .int .u8 (a 9), .int .u8 (a 10), .int .u8 (a 11), .int .u8 (a 12), .int .u8 (a 13), .int .u8 (a 14), .int .u8 (a 15), .int .u8 (a 16), .int .u8 (a 17), .int .u8 (a 18), .int .u8 (a 19)] = w28 at H30 H29 B31 ⊢; generalize Value.tuple #[.agg #[.int .u8 (a 0), .int .u8 (a 1), .int .u8 (a 2), .int .u8 (a 3), .int .u8 (a 4), .int .u8 (a 5), .int .u8 (a 6), .int .u8 (a 7), .int .u8 (a 8), .int .u8 (a 9), .int .u8 (a 10), .int .u8 (a 11), .int .u8 (a 12), .int .u8 (a 13), .int .u8 (a 14), .int .u8 (a 15), .int .u8 (a 16), .int .u8 (a 17), .int .u8 (a 18), .int .u8 (a 19)], .int .i64 0] = V32; generalize Value.agg #[.int .u8 (a 0), .int .u8 (a 1), .int .u8 (a 2), .int .u8 (a 3), .int .u8 (a 4), .int .u8 (a 5), .int .u8 (a 6), .int .u8 (a 7), .int .u8 (a 8), .int .u8 (a 9), .int .u8 (a 10), .int .u8 (a 11), .int .u8 (a 12), .int .u8 (a 13), .int .u8 (a 14), .int .u8 (a 15), .int .u8 (a 16), .int .u8 (a 17), .int .u8 (a 18), .int .u8 (a 19)] = V33))
  refine (Hh3.out w28 (HhT.out.at B31.out) B31.out).mono ?_
  rintro e w34 ⟨rfl, hb_⟩
  have B35 := Aside0.mk (below_step B31.out hb_)
  have H36 := Aside0.mk (blk_below H30.out hb_)
  have H37 := Aside0.mk (blk_below H29.out hb_)
  clear hb_ B31 H30 H29
  go_wp2_with (first | ((with_reducible refine gate_dst (N := 11) rfl ?_); refine box_event ?hg (N := 11) ?hd (cs := #[.int .u8 0, .int .u8 0, .int .u8 0, .int .u8 0, .int .u8 0, .int .u8 0, .int .u8 0, .int .u8 0, .int .u8 0, .int .u8 0, .int .u8 0, .int .u8 0, .int .u8 0, .int .u8 0, .int .u8 0, .int .u8 0, .int .u8 0, .int .u8 0, .int .u8 0, .int .u8 0]) (t := 23) ?hr ?_; (case hd => rfl); (case hg => rfl); (case hr => first | (go_simp; done) | (go_simp; rfl)); intro g38 hgg38 w39 hhg38 hbg38; have H46 := Aside0.mk hhg38; have N40 : g8 ≠ g38 := Nat.ne_of_lt (Nat.lt_of_lt_of_eq (blk_lt H36.out) hgg38.symm); have N41 : g21 ≠ g38 := Nat.ne_of_lt (Nat.lt_of_lt_of_eq (blk_lt H37.out) hgg38.symm); have G42 : w.heap.size ≤ g38 := Nat.le_trans B35.out.size (Nat.le_of_eq hgg38.symm); have B43 := Aside0.mk (below_step B35.out hbg38); have H44 := Aside0.mk (blk_below H36.out hbg38); have H45 := Aside0.mk (blk_below H37.out hbg38); clear hgg38 hhg38 hbg38 B35 H36 H37) | ((with_reducible refine gate_store (t := 23) (p := _) rfl ?_); refine storeN_event (T := 23) rfl rfl rfl rfl rfl (storeVar_blk H46.out 23 0 [.int .u8 (b 0), .int .u8 (b 1), .int .u8 (b 2), .int .u8 (b 3), .int .u8 (b 4), .int .u8 (b 5), .int .u8 (b 6), .int .u8 (b 7), .int .u8 (b 8), .int .u8 (b 9), .int .u8 (b 10), .int .u8 (b 11), .int .u8 (b 12), .int .u8 (b 13), .int .u8 (b 14), .int .u8 (b 15), .int .u8 (b 16), .int .u8 (b 17), .int .u8 (b 18), .int .u8 (b 19)] (by kernel_rfl) rfl (by simp)) ?_; have H48 := Aside0.mk (show (World.setCells w39 g38 0 [.int .u8 (b 0), .int .u8 (b 1), .int .u8 (b 2), .int .u8 (b 3), .int .u8 (b 4), .int .u8 (b 5), .int .u8 (b 6), .int .u8 (b 7), .int .u8 (b 8), .int .u8 (b 9), .int .u8 (b 10), .int .u8 (b 11), .int .u8 (b 12), .int .u8 (b 13), .int .u8 (b 14), .int .u8 (b 15), .int .u8 (b 16), .int .u8 (b 17), .int .u8 (b 18), .int .u8 (b 19)]).heap[g38]? = some (.cells #[.int .u8 (b 0), .int .u8 (b 1), .int .u8 (b 2), .int .u8 (b 3), .int .u8 (b 4), .int .u8 (b 5), .int .u8 (b 6), .int .u8 (b 7), .int .u8 (b 8), .int .u8 (b 9), .int .u8 (b 10), .int .u8 (b 11), .int .u8 (b 12), .int .u8 (b 13), .int .u8 (b 14), .int .u8 (b 15), .int .u8 (b 16), .int .u8 (b 17), .int .u8 (b 18), .int .u8 (b 19)] 23 (0, 0)) from blk_setCells [] [.int .u8 (b 0), .int .u8 (b 1), .int .u8 (b 2), .int .u8 (b 3), .int .u8 (b 4), .int .u8 (b 5), .int .u8 (b 6), .int .u8 (b 7), .int .u8 (b 8), .int .u8 (b 9), .int .u8 (b 10), .int .u8 (b 11), .int .u8 (b 12), .int .u8 (b 13), .int .u8 (b 14), .int .u8 (b 15), .int .u8 (b 16), .int .u8 (b 17), .int .u8 (b 18), .int .u8 (b 19)] [.int .u8 0, .int .u8 0, .int .u8 0, .int .u8 0, .int .u8 0, .int .u8 0, .int .u8 0, .int .u8 0, .int .u8 0, .int .u8 0, .int .u8 0, .int .u8 0, .int .u8 0, .int .u8 0, .int .u8 0, .int .u8 0, .int .u8 0, .int .u8 0, .int .u8 0, .int .u8 0] [] w39 rfl H46.out); have H49 := Aside0.mk (far_setCells N40 [.int .u8 (b 0), .int .u8 (b 1), .int .u8 (b 2), .int .u8 (b 3), .int .u8 (b 4), .int .u8 (b 5), .int .u8 (b 6), .int .u8 (b 7), .int .u8 (b 8), .int .u8 (b 9), .int .u8 (b 10), .int .u8 (b 11), .int .u8 (b 12), .int .u8 (b 13), .int .u8 (b 14), .int .u8 (b 15), .int .u8 (b 16), .int .u8 (b 17), .int .u8 (b 18), .int .u8 (b 19)] 0 w39 H44.out); have H50 := Aside0.mk (far_setCells N41 [.int .u8 (b 0), .int .u8 (b 1), .int .u8 (b 2), .int .u8 (b 3), .int .u8 (b 4), .int .u8 (b 5), .int .u8 (b 6), .int .u8 (b 7), .int .u8 (b 8), .int .u8 (b 9), .int .u8 (b 10), .int .u8 (b 11), .int .u8 (b 12), .int .u8 (b 13), .int .u8 (b 14), .int .u8 (b 15), .int .u8 (b 16), .int .u8 (b 17), .int .u8 (b 18), .int .u8 (b 19)] 0 w39 H45.out); have B51 := Aside0.mk (below_setCells G42 [.int .u8 (b 0), .int .u8 (b 1), .int .u8 (b 2), .int .u8 (b 3), .int .u8 (b 4), .int .u8 (b 5), .int .u8 (b 6), .int .u8 (b 7), .int .u8 (b 8), .int .u8 (b 9), .int .u8 (b 10), .int .u8 (b 11), .int .u8 (b 12), .int .u8 (b 13), .int .u8 (b 14), .int .u8 (b 15), .int .u8 (b 16), .int .u8 (b 17), .int .u8 (b 18), .int .u8 (b 19)] 0 w39 B43.out); clear H46 H44 H45 B43; generalize World.setCells w39 g38 0 [.int .u8 (b 0), .int .u8 (b 1), .int .u8 (b 2), .int .u8 (b 3), .int .u8 (b 4), .int .u8 (b 5), .int .u8 (b 6), .int .u8 (b 7), .int .u8 (b 8), .int .u8 (b 9), .int .u8 (b 10), .int .u8 (b 11), .int .u8 (b 12), .int .u8 (b 13), .int .u8 (b 14), .int .u8 (b 15), .int .u8 (b 16), .int .u8 (b 17), .int .u8 (b 18), .int .u8 (b 19)] = w47 at H49 H50 H48 B51 ⊢; generalize Value.tuple #[.agg #[.int .u8 (b 0), .int .u8 (b 1), .int .u8 (b 2), .int .u8 (b 3), .int .u8 (b 4), .int .u8 (b 5), .int .u8 (b 6), .int .u8 (b 7), .int .u8 (b 8), .int .u8 (b 9), .int .u8 (b 10), .int .u8 (b 11), .int .u8 (b 12), .int .u8 (b 13), .int .u8 (b 14), .int .u8 (b 15), .int .u8 (b 16), .int .u8 (b 17), .int .u8 (b 18), .int .u8 (b 19)], .int .i64 0] = V52; generalize Value.agg #[.int .u8 (b 0), .int .u8 (b 1), .int .u8 (b 2), .int .u8 (b 3), .int .u8 (b 4), .int .u8 (b 5), .int .u8 (b 6), .int .u8 (b 7), .int .u8 (b 8), .int .u8 (b 9), .int .u8 (b 10), .int .u8 (b 11), .int .u8 (b 12), .int .u8 (b 13), .int .u8 (b 14), .int .u8 (b 15), .int .u8 (b 16), .int .u8 (b 17), .int .u8 (b 18), .int .u8 (b 19)] = V53) | ((with_reducible refine gate_dst (N := 66) rfl ?_); refine loadG_event (T := 23) (by rfl) rfl rfl (run_loadVar_row _ _ _ _ _ (0, 0) _ H50.out Tryd.underlying23 rfl (by kernel_rfl)) ?_) | ((with_reducible refine gate_dst (N := 67) rfl ?_); refine loadG_event (T := 23) (by rfl) rfl rfl (run_loadVar_row _ _ _ _ _ (0, 0) _ H48.out Tryd.underlying23 rfl (by kernel_rfl)) ?_))
  refine (Hh4.out w47 (HhT.out.at B51.out)).mono ?_
  rintro e w54 ⟨rfl, hb_⟩
  have B55 := Aside0.mk (below_step B51.out hb_)
  have H56 := Aside0.mk (blk_below H49.out hb_)
  have H57 := Aside0.mk (blk_below H50.out hb_)
  have H58 := Aside0.mk (blk_below H48.out hb_)
  clear hb_ B51 H49 H50 H48
  go_wp2_with (first | ((with_reducible refine gate_dst (N := 13) rfl ?_); refine box_event ?hg (N := 13) ?hd (cs := #[.int .u8 0, .int .u8 0, .int .u8 0, .int .u8 0, .int .u8 0, .int .u8 0, .int .u8 0, .int .u8 0, .int .u8 0, .int .u8 0, .int .u8 0, .int .u8 0, .int .u8 0, .int .u8 0, .int .u8 0, .int .u8 0, .int .u8 0, .int .u8 0, .int .u8 0, .int .u8 0]) (t := 23) ?hr ?_; (case hd => rfl); (case hg => rfl); (case hr => first | (go_simp; done) | (go_simp; rfl)); intro g59 hgg59 w60 hhg59 hbg59; have H69 := Aside0.mk hhg59; have N61 : g8 ≠ g59 := Nat.ne_of_lt (Nat.lt_of_lt_of_eq (blk_lt H56.out) hgg59.symm); have N62 : g21 ≠ g59 := Nat.ne_of_lt (Nat.lt_of_lt_of_eq (blk_lt H57.out) hgg59.symm); have N63 : g38 ≠ g59 := Nat.ne_of_lt (Nat.lt_of_lt_of_eq (blk_lt H58.out) hgg59.symm); have G64 : w.heap.size ≤ g59 := Nat.le_trans B55.out.size (Nat.le_of_eq hgg59.symm); have B65 := Aside0.mk (below_step B55.out hbg59); have H66 := Aside0.mk (blk_below H56.out hbg59); have H67 := Aside0.mk (blk_below H57.out hbg59); have H68 := Aside0.mk (blk_below H58.out hbg59); clear hgg59 hhg59 hbg59 B55 H56 H57 H58) | ((with_reducible refine gate_store (t := 23) (p := _) rfl ?_); refine storeN_event (T := 23) rfl rfl rfl rfl rfl (storeVar_blk H69.out 23 0 [.int .u8 (r 0), .int .u8 (r 1), .int .u8 (r 2), .int .u8 (r 3), .int .u8 (r 4), .int .u8 (r 5), .int .u8 (r 6), .int .u8 (r 7), .int .u8 (r 8), .int .u8 (r 9), .int .u8 (r 10), .int .u8 (r 11), .int .u8 (r 12), .int .u8 (r 13), .int .u8 (r 14), .int .u8 (r 15), .int .u8 (r 16), .int .u8 (r 17), .int .u8 (r 18), .int .u8 (r 19)] (by kernel_rfl) rfl (by simp)) ?_; have H71 := Aside0.mk (show (World.setCells w60 g59 0 [.int .u8 (r 0), .int .u8 (r 1), .int .u8 (r 2), .int .u8 (r 3), .int .u8 (r 4), .int .u8 (r 5), .int .u8 (r 6), .int .u8 (r 7), .int .u8 (r 8), .int .u8 (r 9), .int .u8 (r 10), .int .u8 (r 11), .int .u8 (r 12), .int .u8 (r 13), .int .u8 (r 14), .int .u8 (r 15), .int .u8 (r 16), .int .u8 (r 17), .int .u8 (r 18), .int .u8 (r 19)]).heap[g59]? = some (.cells #[.int .u8 (r 0), .int .u8 (r 1), .int .u8 (r 2), .int .u8 (r 3), .int .u8 (r 4), .int .u8 (r 5), .int .u8 (r 6), .int .u8 (r 7), .int .u8 (r 8), .int .u8 (r 9), .int .u8 (r 10), .int .u8 (r 11), .int .u8 (r 12), .int .u8 (r 13), .int .u8 (r 14), .int .u8 (r 15), .int .u8 (r 16), .int .u8 (r 17), .int .u8 (r 18), .int .u8 (r 19)] 23 (0, 0)) from blk_setCells [] [.int .u8 (r 0), .int .u8 (r 1), .int .u8 (r 2), .int .u8 (r 3), .int .u8 (r 4), .int .u8 (r 5), .int .u8 (r 6), .int .u8 (r 7), .int .u8 (r 8), .int .u8 (r 9), .int .u8 (r 10), .int .u8 (r 11), .int .u8 (r 12), .int .u8 (r 13), .int .u8 (r 14), .int .u8 (r 15), .int .u8 (r 16), .int .u8 (r 17), .int .u8 (r 18), .int .u8 (r 19)] [.int .u8 0, .int .u8 0, .int .u8 0, .int .u8 0, .int .u8 0, .int .u8 0, .int .u8 0, .int .u8 0, .int .u8 0, .int .u8 0, .int .u8 0, .int .u8 0, .int .u8 0, .int .u8 0, .int .u8 0, .int .u8 0, .int .u8 0, .int .u8 0, .int .u8 0, .int .u8 0] [] w60 rfl H69.out); have H72 := Aside0.mk (far_setCells N61 [.int .u8 (r 0), .int .u8 (r 1), .int .u8 (r 2), .int .u8 (r 3), .int .u8 (r 4), .int .u8 (r 5), .int .u8 (r 6), .int .u8 (r 7), .int .u8 (r 8), .int .u8 (r 9), .int .u8 (r 10), .int .u8 (r 11), .int .u8 (r 12), .int .u8 (r 13), .int .u8 (r 14), .int .u8 (r 15), .int .u8 (r 16), .int .u8 (r 17), .int .u8 (r 18), .int .u8 (r 19)] 0 w60 H66.out); have H73 := Aside0.mk (far_setCells N62 [.int .u8 (r 0), .int .u8 (r 1), .int .u8 (r 2), .int .u8 (r 3), .int .u8 (r 4), .int .u8 (r 5), .int .u8 (r 6), .int .u8 (r 7), .int .u8 (r 8), .int .u8 (r 9), .int .u8 (r 10), .int .u8 (r 11), .int .u8 (r 12), .int .u8 (r 13), .int .u8 (r 14), .int .u8 (r 15), .int .u8 (r 16), .int .u8 (r 17), .int .u8 (r 18), .int .u8 (r 19)] 0 w60 H67.out); have H74 := Aside0.mk (far_setCells N63 [.int .u8 (r 0), .int .u8 (r 1), .int .u8 (r 2), .int .u8 (r 3), .int .u8 (r 4), .int .u8 (r 5), .int .u8 (r 6), .int .u8 (r 7), .int .u8 (r 8), .int .u8 (r 9), .int .u8 (r 10), .int .u8 (r 11), .int .u8 (r 12), .int .u8 (r 13), .int .u8 (r 14), .int .u8 (r 15), .int .u8 (r 16), .int .u8 (r 17), .int .u8 (r 18), .int .u8 (r 19)] 0 w60 H68.out); have B75 := Aside0.mk (below_setCells G64 [.int .u8 (r 0), .int .u8 (r 1), .int .u8 (r 2), .int .u8 (r 3), .int .u8 (r 4), .int .u8 (r 5), .int .u8 (r 6), .int .u8 (r 7), .int .u8 (r 8), .int .u8 (r 9), .int .u8 (r 10), .int .u8 (r 11), .int .u8 (r 12), .int .u8 (r 13), .int .u8 (r 14), .int .u8 (r 15), .int .u8 (r 16), .int .u8 (r 17), .int .u8 (r 18), .int .u8 (r 19)] 0 w60 B65.out); clear H69 H66 H67 H68 B65; generalize World.setCells w60 g59 0 [.int .u8 (r 0), .int .u8 (r 1), .int .u8 (r 2), .int .u8 (r 3), .int .u8 (r 4), .int .u8 (r 5), .int .u8 (r 6), .int .u8 (r 7), .int .u8 (r 8), .int .u8 (r 9), .int .u8 (r 10), .int .u8 (r 11), .int .u8 (r 12), .int .u8 (r 13), .int .u8 (r 14), .int .u8 (r 15), .int .u8 (r 16), .int .u8 (r 17), .int .u8 (r 18), .int .u8 (r 19)] = w70 at H72 H73 H74 H71 B75 ⊢; generalize Value.tuple #[.agg #[.int .u8 (r 0), .int .u8 (r 1), .int .u8 (r 2), .int .u8 (r 3), .int .u8 (r 4), .int .u8 (r 5), .int .u8 (r 6), .int .u8 (r 7), .int .u8 (r 8), .int .u8 (r 9), .int .u8 (r 10), .int .u8 (r 11), .int .u8 (r 12), .int .u8 (r 13), .int .u8 (r 14), .int .u8 (r 15), .int .u8 (r 16), .int .u8 (r 17), .int .u8 (r 18), .int .u8 (r 19)], .int .i64 0] = V76; generalize Value.agg #[.int .u8 (r 0), .int .u8 (r 1), .int .u8 (r 2), .int .u8 (r 3), .int .u8 (r 4), .int .u8 (r 5), .int .u8 (r 6), .int .u8 (r 7), .int .u8 (r 8), .int .u8 (r 9), .int .u8 (r 10), .int .u8 (r 11), .int .u8 (r 12), .int .u8 (r 13), .int .u8 (r 14), .int .u8 (r 15), .int .u8 (r 16), .int .u8 (r 17), .int .u8 (r 18), .int .u8 (r 19)] = V77))
  refine (Hh5.out w70 (HhT.out.at B75.out) B75.out).mono ?_
  rintro e w78 ⟨vp_, rfl, hR_, hb_⟩
  have B79 := Aside0.mk (below_step B75.out hb_)
  have H80 := Aside0.mk (blk_below H72.out hb_)
  have H81 := Aside0.mk (blk_below H73.out hb_)
  have H82 := Aside0.mk (blk_below H74.out hb_)
  have H83 := Aside0.mk (blk_below H71.out hb_)
  clear hb_ B75 H72 H73 H74 H71
  obtain ⟨rp, cp, rfl, hle_, hC_⟩ := Kd.R_reads hR_
  obtain ⟨m, hm_⟩ : ∃ m : Nat, m = ps.length := ⟨_, rfl⟩
  rw [← hm_]
  have Hm := Aside0.mk hm_
  rw [← hm_] at hC_ hle_
  clear hm_
  have BWP := Aside0.mk B79.out
  have RP := Aside0.mk hC_
  have LP := Aside0.mk hle_
  clear hC_ hle_ hR_
  have m1 : ((m : Int) < 1) = False := eq_false (by rw [Hm.out, Hhps.out, List.length_append, List.length_singleton]; omega)
  have m2 : (m < 1) = False := eq_false (by rw [Hm.out, Hhps.out, List.length_append, List.length_singleton]; omega)
  have m3 : (m = 0) = False := eq_false (by rw [Hm.out, Hhps.out, List.length_append, List.length_singleton]; omega)
  go_wp2_with (first | ((with_reducible refine gate_dst (N := 92) rfl ?_); refine loadG_event (T := 23) (by rfl) rfl rfl (run_loadVar_row _ _ _ _ _ (0, 0) _ H80.out Tryd.underlying23 rfl (by kernel_rfl)) ?_) | ((with_reducible refine gate_dst (N := 93) rfl ?_); refine loadG_event (T := 23) (by rfl) rfl rfl (run_loadVar_row _ _ _ _ _ (0, 0) _ H83.out Tryd.underlying23 rfl (by kernel_rfl)) ?_))
  refine (Hh6.out w78 (HhT.out.at B79.out) B79.out).mono ?_
  rintro e w84 ⟨vh_, rfl, hR_, hb_⟩
  have B85 := Aside0.mk (below_step B79.out hb_)
  have B86 := Aside0.mk (hb_)
  have H87 := Aside0.mk (blk_below H80.out hb_)
  have H88 := Aside0.mk (blk_below H81.out hb_)
  have H89 := Aside0.mk (blk_below H82.out hb_)
  have H90 := Aside0.mk (blk_below H83.out hb_)
  clear hb_ B79 H80 H81 H82 H83
  have HO := Aside0.mk hR_
  clear hR_
  go_wp2_with (first | ((with_reducible refine gate_dst (N := 117) rfl ?_); refine loadG_event (T := 23) (by rfl) rfl rfl (run_loadVar_row _ _ _ _ _ (0, 0) _ H89.out Tryd.underlying23 rfl (by kernel_rfl)) ?_) | ((with_reducible refine gate_bltn (b := .append) (xs := #[.tmp 116, .tmp 118]) rfl ?_); at_builtin; refine Kd.R_append kdg (w0 := w78) w78.heap.size rfl (.tmp 116) (.tmp 118) 55 23 (.agg #[.int .u8 0, .int .u8 0, .int .u8 0, .int .u8 0, .int .u8 0, .int .u8 0, .int .u8 0, .int .u8 0, .int .u8 0, .int .u8 0, .int .u8 0, .int .u8 0, .int .u8 0, .int .u8 0, .int .u8 0, .int .u8 0, .int .u8 0, .int .u8 0, .int .u8 0, .int .u8 0]) 20 rfl Tryd.underlying55 info23p rfl (by decide) (by decide) _ ph b [.int .u8 (b 0), .int .u8 (b 1), .int .u8 (b 2), .int .u8 (b 3), .int .u8 (b 4), .int .u8 (b 5), .int .u8 (b 6), .int .u8 (b 7), .int .u8 (b 8), .int .u8 (b 9), .int .u8 (b 10), .int .u8 (b 11), .int .u8 (b 12), .int .u8 (b 13), .int .u8 (b 14), .int .u8 (b 15), .int .u8 (b 16), .int .u8 (b 17), .int .u8 (b 18), .int .u8 (b 19)] (fun _ => True) (fun _ => False) rfl rfl ?aP (fun _ hk => hk.elim) ?aF ?aO ?aB ?aS ?aL ?_; (case aP => exact dgM _ _ _ _); (case aB => first | exact B86.out | exact below_alloc B86.out _); (case aF => exact (fun _ _ => trivial)); (case aO => exact (by (with_reducible repeat (first | apply Kd.R_alloc)); exact HO.out)); (case aS => first | exact below_size B86.out | exact below_size (below_alloc B86.out _)); (case aL => have := Hhp.out; omega); intro v200 w200 ho hb hg hat; have HO200 := Aside0.mk ho; have B200 := Aside0.mk hb; clear ho hb hg hat HO B86))
  have HO201 := Aside0.mk (show Kd.R kdg 23 w200 w78.heap.size (fun _ => True) v200 ps by rw [Hhps.out]; exact HO200.out)
  obtain ⟨rh, ch, rfl, hle_, hC_⟩ := Kd.R_reads HO201.out
  have HM := Hm.out
  subst HM
  have RH := Aside0.mk hC_
  clear hC_ hle_ HO200 HO201
  have BF := Aside0.mk (below_step BWP.out B200.out)
  refine (same_sums rp rh cp ch ps w200 (Kd.C_below RP.out B200.out) RH.out (by have := Hhp.out; rw [Hhps.out, List.length_append, List.length_singleton]; omega)).mono ?_
  rintro e w201 ⟨rfl, hb_⟩
  have BG := Aside0.mk (below_step BF.out hb_)
  clear hb_
  go_wp2_with fail
  go_ret
  exact ⟨rfl, BG.out⟩
set_option maxHeartbeats 3200000 in
set_option maxRecDepth 100000 in
theorem halves_right (A : Option Addr) (c : Nat) (ll : List (List Int)) (i k : Nat) (A2 : Option Addr) (w : World) (hT : TabQ w) (hr : Kd.C (Kd.slice 5 (Kd.int .u8)) w A ll.length ll) (hlc : ll.length ≤ c) (hal : ∀ W : World, TabQ W → Calls Tryd.prog 33 #[] W fun e w' => e = .returned (.bool true) ∧ Below W.heap.size W w') (hf : fitb ll = true) (hw : 2 ≤ ll.length ∧ i < ll.length ∧ k ≤ ll.length ∧ k ≤ i) (hi20 : ll.length ≤ 20)
    (r a b : Dg) (ps ph : List Dg) (hps : ps = ph ++ [a]) (hp : ph.length ≤ 1000) (hcut2 : ∀ W : World, (Instr.slice 51 (.slice A ll.length c) (some (.int .i64 (k : Int))) none none).run Tryd.prog W = .ok (.slice A2 (ll.length - k) (c - k)) W)
    (hhalf : ∀ W : World, Calls Tryd.prog 64 #[.int .i64 (ll.length : Int)] W fun e w' => e = .returned (.int .i64 (k : Int)) ∧ Below W.heap.size W w') (h1 : ∀ W : World, TabQ W → Below w.heap.size w W → Calls Tryd.prog 35 #[.slice A ll.length c] W fun e w' => e = .returned (.tuple #[.agg #[.int .u8 (r 0), .int .u8 (r 1), .int .u8 (r 2), .int .u8 (r 3), .int .u8 (r 4), .int .u8 (r 5), .int .u8 (r 6), .int .u8 (r 7), .int .u8 (r 8), .int .u8 (r 9), .int .u8 (r 10), .int .u8 (r 11), .int .u8 (r 12), .int .u8 (r 13), .int .u8 (r 14), .int .u8 (r 15), .int .u8 (r 16), .int .u8 (r 17), .int .u8 (r 18), .int .u8 (r 19)], .int .i64 0]) ∧ Below W.heap.size W w') (h2 : ∀ W : World, TabQ W → Below w.heap.size w W → Calls Tryd.prog 35 #[.slice A k c] W fun e w' => e = .returned (.tuple #[.agg #[.int .u8 (a 0), .int .u8 (a 1), .int .u8 (a 2), .int .u8 (a 3), .int .u8 (a 4), .int .u8 (a 5), .int .u8 (a 6), .int .u8 (a 7), .int .u8 (a 8), .int .u8 (a 9), .int .u8 (a 10), .int .u8 (a 11), .int .u8 (a 12), .int .u8 (a 13), .int .u8 (a 14), .int .u8 (a 15), .int .u8 (a 16), .int .u8 (a 17), .int .u8 (a 18), .int .u8 (a 19)], .int .i64 0]) ∧ Below W.heap.size W w') (h3 : ∀ W : World, TabQ W → Below w.heap.size w W → Calls Tryd.prog 35 #[.slice A2 (ll.length - k) (c - k)] W fun e w' => e = .returned (.tuple #[.agg #[.int .u8 (b 0), .int .u8 (b 1), .int .u8 (b 2), .int .u8 (b 3), .int .u8 (b 4), .int .u8 (b 5), .int .u8 (b 6), .int .u8 (b 7), .int .u8 (b 8), .int .u8 (b 9), .int .u8 (b 10), .int .u8 (b 11), .int .u8 (b 12), .int .u8 (b 13), .int .u8 (b 14), .int .u8 (b 15), .int .u8 (b 16), .int .u8 (b 17), .int .u8 (b 18), .int .u8 (b 19)], .int .i64 0]) ∧ Below W.heap.size W w') (h4 : ∀ W : World, TabQ W → Calls Tryd.prog 65 #[.agg #[.int .u8 (a 0), .int .u8 (a 1), .int .u8 (a 2), .int .u8 (a 3), .int .u8 (a 4), .int .u8 (a 5), .int .u8 (a 6), .int .u8 (a 7), .int .u8 (a 8), .int .u8 (a 9), .int .u8 (a 10), .int .u8 (a 11), .int .u8 (a 12), .int .u8 (a 13), .int .u8 (a 14), .int .u8 (a 15), .int .u8 (a 16), .int .u8 (a 17), .int .u8 (a 18), .int .u8 (a 19)], .agg #[.int .u8 (b 0), .int .u8 (b 1), .int .u8 (b 2), .int .u8 (b 3), .int .u8 (b 4), .int .u8 (b 5), .int .u8 (b 6), .int .u8 (b 7), .int .u8 (b 8), .int .u8 (b 9), .int .u8 (b 10), .int .u8 (b 11), .int .u8 (b 12), .int .u8 (b 13), .int .u8 (b 14), .int .u8 (b 15), .int .u8 (b 16), .int .u8 (b 17), .int .u8 (b 18), .int .u8 (b 19)]] W fun e w' => e = .returned (.tuple #[.agg #[.int .u8 (r 0), .int .u8 (r 1), .int .u8 (r 2), .int .u8 (r 3), .int .u8 (r 4), .int .u8 (r 5), .int .u8 (r 6), .int .u8 (r 7), .int .u8 (r 8), .int .u8 (r 9), .int .u8 (r 10), .int .u8 (r 11), .int .u8 (r 12), .int .u8 (r 13), .int .u8 (r 14), .int .u8 (r 15), .int .u8 (r 16), .int .u8 (r 17), .int .u8 (r 18), .int .u8 (r 19)], .int .i64 0]) ∧ Below W.heap.size W w') (h5 : ∀ W : World, TabQ W → Below w.heap.size w W → Calls Tryd.prog 36 #[.slice A ll.length c, .int .i64 (i : Int)] W fun e w' => ∃ v0_ : Value, e = .returned (.tuple #[v0_, .int .i64 0]) ∧ Kd.R kdg 23 w' W.heap.size (fun _ => True) v0_ ps ∧ Below W.heap.size W w') (h6 : ∀ W : World, TabQ W → Below w.heap.size w W → Calls Tryd.prog 36 #[.slice A2 (ll.length - k) (c - k), .int .i64 ((i - k : Nat) : Int)] W fun e w' => ∃ v0_ : Value, e = .returned (.tuple #[v0_, .int .i64 0]) ∧ Kd.R kdg 23 w' W.heap.size (fun _ => True) v0_ ph ∧ Below W.heap.size W w') :
    Calls Tryd.prog 19 #[.slice A ll.length c, .int .i64 (i : Int)] w fun e w' => e = .returned (.bool true) ∧ Below w.heap.size w w' := by
  have HhT := Aside0.mk hT
  have Hhr := Aside0.mk hr
  have Hhlc := Aside0.mk hlc
  have Hhal := Aside0.mk hal
  have Hhf := Aside0.mk hf
  have Hh1 := Aside0.mk h1
  have Hh2 := Aside0.mk h2
  have Hh3 := Aside0.mk h3
  have Hh4 := Aside0.mk h4
  have Hh5 := Aside0.mk h5
  have Hh6 := Aside0.mk h6
  have Hhhalf := Aside0.mk hhalf
  have Hhp := Aside0.mk hp
  have Hhps := Aside0.mk hps
  have n2a : ((((ll.length : Nat) : Int) : Int) < (2 : Int)) = False := eq_false (by omega)
  have n2b : ((2 : Int) ≤ (((ll.length : Nat) : Int) : Int)) = True := eq_true (by omega)
  have n2c : (ll.length < 2) = False := eq_false (by omega)
  have n2d : (2 ≤ ll.length) = True := eq_true (by omega)
  have i0a : ((((i : Nat) : Int) : Int) < (0 : Int)) = False := eq_false (by omega)
  have i0b : ((0 : Int) ≤ (((i : Nat) : Int) : Int)) = True := eq_true (by omega)
  have ina : ((((i : Nat) : Int) : Int) < (((ll.length : Nat) : Int) : Int)) = True := eq_true (by omega)
  have inb : ((((ll.length : Nat) : Int) : Int) ≤ (((i : Nat) : Int) : Int)) = False := eq_false (by omega)
  have inc : (i < ll.length) = True := eq_true (by omega)
  have ind : (ll.length ≤ i) = False := eq_false (by omega)
  have ika : ((((i : Nat) : Int) : Int) < (((k : Nat) : Int) : Int)) = False := eq_false (by omega)
  have ikb : ((((k : Nat) : Int) : Int) ≤ (((i : Nat) : Int) : Int)) = True := eq_true (by omega)
  have ikc : (i < k) = False := eq_false (by omega)
  have ikd : (k ≤ i) = True := eq_true (by omega)
  have hcut := fun W : World => cut51 A ll.length c k (by omega) hlc W
  have u1 : wrap64 ((i : Int) - (k : Int)) = ((i - k : Nat) : Int) := by have := hi20; unfold wrap64; omega
  clear hT hr hlc hal hf hw h1 h2 h3 h4 h5 h6 hhalf hp hps
  have hqr := fun (k : Nat) (W : World) => eqA23 k W (r 0) (r 0) (r 1) (r 1) (r 2) (r 2) (r 3) (r 3) (r 4) (r 4) (r 5) (r 5) (r 6) (r 6) (r 7) (r 7) (r 8) (r 8) (r 9) (r 9) (r 10) (r 10) (r 11) (r 11) (r 12) (r 12) (r 13) (r 13) (r 14) (r 14) (r 15) (r 15) (r 16) (r 16) (r 17) (r 17) (r 18) (r 18) (r 19) (r 19)
  simp only [beq_self_eq_true, Bool.and_self] at hqr
  go_enter Tryd.func19, Tryd.ntmps19
  go_wp2_with fail
  refine (Hhal.out w (HhT.out.at (Below.refl _ _))).mono ?_
  rintro e w1 ⟨rfl, hb_⟩
  have B2 := Aside0.mk (hb_)
  clear hb_
  go_wp2_with fail
  refine (fit_calls A c ll _ (Kd.C_below Hhr.out B2.out) Hhlc.out).mono ?_
  rintro e w3 ⟨rfl, hw_⟩
  obtain rfl : w1 = w3 := hw_.symm
  rw [Hhf.out]
  go_wp2_with fail
  refine (Hhhalf.out w1).mono ?_
  rintro e w4 ⟨rfl, hb_⟩
  have B5 := Aside0.mk (below_step B2.out hb_)
  clear hb_ B2
  go_wp2_with fail
  refine (Hh1.out w4 (HhT.out.at B5.out) B5.out).mono ?_
  rintro e w6 ⟨rfl, hb_⟩
  have B7 := Aside0.mk (below_step B5.out hb_)
  clear hb_ B5
  go_wp2_with (first | ((with_reducible refine gate_dst (N := 7) rfl ?_); refine box_event ?hg (N := 7) ?hd (cs := #[.int .u8 0, .int .u8 0, .int .u8 0, .int .u8 0, .int .u8 0, .int .u8 0, .int .u8 0, .int .u8 0, .int .u8 0, .int .u8 0, .int .u8 0, .int .u8 0, .int .u8 0, .int .u8 0, .int .u8 0, .int .u8 0, .int .u8 0, .int .u8 0, .int .u8 0, .int .u8 0]) (t := 23) ?hr ?_; (case hd => rfl); (case hg => rfl); (case hr => first | (go_simp; done) | (go_simp; rfl)); intro g8 hgg8 w9 hhg8 hbg8; have H12 := Aside0.mk hhg8; have G10 : w.heap.size ≤ g8 := Nat.le_trans B7.out.size (Nat.le_of_eq hgg8.symm); have B11 := Aside0.mk (below_step B7.out hbg8); clear hgg8 hhg8 hbg8 B7) | ((with_reducible refine gate_store (t := 23) (p := _) rfl ?_); refine storeN_event (T := 23) rfl rfl rfl rfl rfl (storeVar_blk H12.out 23 0 [.int .u8 (r 0), .int .u8 (r 1), .int .u8 (r 2), .int .u8 (r 3), .int .u8 (r 4), .int .u8 (r 5), .int .u8 (r 6), .int .u8 (r 7), .int .u8 (r 8), .int .u8 (r 9), .int .u8 (r 10), .int .u8 (r 11), .int .u8 (r 12), .int .u8 (r 13), .int .u8 (r 14), .int .u8 (r 15), .int .u8 (r 16), .int .u8 (r 17), .int .u8 (r 18), .int .u8 (r 19)] (by kernel_rfl) rfl (by simp)) ?_; have H14 := Aside0.mk (show (World.setCells w9 g8 0 [.int .u8 (r 0), .int .u8 (r 1), .int .u8 (r 2), .int .u8 (r 3), .int .u8 (r 4), .int .u8 (r 5), .int .u8 (r 6), .int .u8 (r 7), .int .u8 (r 8), .int .u8 (r 9), .int .u8 (r 10), .int .u8 (r 11), .int .u8 (r 12), .int .u8 (r 13), .int .u8 (r 14), .int .u8 (r 15), .int .u8 (r 16), .int .u8 (r 17), .int .u8 (r 18), .int .u8 (r 19)]).heap[g8]? = some (.cells #[.int .u8 (r 0), .int .u8 (r 1), .int .u8 (r 2), .int .u8 (r 3), .int .u8 (r 4), .int .u8 (r 5), .int .u8 (r 6), .int .u8 (r 7), .int .u8 (r 8), .int .u8 (r 9), .int .u8 (r 10), .int .u8 (r 11), .int .u8 (r 12), .int .u8 (r 13), .int .u8 (r 14), .int .u8 (r 15), .int .u8 (r 16), .int .u8 (r 17), .int .u8 (r 18), .int .u8 (r 19)] 23 (0, 0)) from blk_setCells [] [.int .u8 (r 0), .int .u8 (r 1), .int .u8 (r 2), .int .u8 (r 3), .int .u8 (r 4), .int .u8 (r 5), .int .u8 (r 6), .int .u8 (r 7), .int .u8 (r 8), .int .u8 (r 9), .int .u8 (r 10), .int .u8 (r 11), .int .u8 (r 12), .int .u8 (r 13), .int .u8 (r 14), .int .u8 (r 15), .int .u8 (r 16), .int .u8 (r 17), .int .u8 (r 18), .int .u8 (r 19)] [.int .u8 0, .int .u8 0, .int .u8 0, .int .u8 0, .int .u8 0, .int .u8 0, .int .u8 0, .int .u8 0, .int .u8 0, .int .u8 0, .int .u8 0, .int .u8 0, .int .u8 0, .int .u8 0, .int .u8 0, .int .u8 0, .int .u8 0, .int .u8 0, .int .u8 0, .int .u8 0] [] w9 rfl H12.out); have B15 := Aside0.mk (below_setCells G10 [.int .u8 (r 0), .int .u8 (r 1), .int .u8 (r 2), .int .u8 (r 3), .int .u8 (r 4), .int .u8 (r 5), .int .u8 (r 6), .int .u8 (r 7), .int .u8 (r 8), .int .u8 (r 9), .int .u8 (r 10), .int .u8 (r 11), .int .u8 (r 12), .int .u8 (r 13), .int .u8 (r 14), .int .u8 (r 15), .int .u8 (r 16), .int .u8 (r 17), .int .u8 (r 18), .int .u8 (r 19)] 0 w9 B11.out); clear H12 B11; generalize World.setCells w9 g8 0 [.int .u8 (r 0), .int .u8 (r 1), .int .u8 (r 2), .int .u8 (r 3), .int .u8 (r 4), .int .u8 (r 5), .int .u8 (r 6), .int .u8 (r 7), .int .u8 (r 8), .int .u8 (r 9), .int .u8 (r 10), .int .u8 (r 11), .int .u8 (r 12), .int .u8 (r 13), .int .u8 (r 14), .int .u8 (r 15), .int .u8 (r 16), .int .u8 (r 17), .int .u8 (r 18), .int .u8 (r 19)] = w13 at H14 B15 ⊢; generalize Value.tuple #[.agg #[.int .u8 (r 0), .int .u8 (r 1), .int .u8 (r 2), .int .u8 (r 3), .int .u8 (r 4), .int .u8 (r 5), .int .u8 (r 6), .int .u8 (r 7), .int .u8 (r 8), .int .u8 (r 9), .int .u8 (r 10), .int .u8 (r 11), .int .u8 (r 12), .int .u8 (r 13), .int .u8 (r 14), .int .u8 (r 15), .int .u8 (r 16), .int .u8 (r 17), .int .u8 (r 18), .int .u8 (r 19)], .int .i64 0] = V16; generalize Value.agg #[.int .u8 (r 0), .int .u8 (r 1), .int .u8 (r 2), .int .u8 (r 3), .int .u8 (r 4), .int .u8 (r 5), .int .u8 (r 6), .int .u8 (r 7), .int .u8 (r 8), .int .u8 (r 9), .int .u8 (r 10), .int .u8 (r 11), .int .u8 (r 12), .int .u8 (r 13), .int .u8 (r 14), .int .u8 (r 15), .int .u8 (r 16), .int .u8 (r 17), .int .u8 (r 18), .int .u8 (r 19)] = V17))
  refine (Hh2.out w13 (HhT.out.at B15.out) B15.out).mono ?_
  rintro e w18 ⟨rfl, hb_⟩
  have B19 := Aside0.mk (below_step B15.out hb_)
  have H20 := Aside0.mk (blk_below H14.out hb_)
  clear hb_ B15 H14
  go_wp2_with (first | ((with_reducible refine gate_dst (N := 9) rfl ?_); refine box_event ?hg (N := 9) ?hd (cs := #[.int .u8 0, .int .u8 0, .int .u8 0, .int .u8 0, .int .u8 0, .int .u8 0, .int .u8 0, .int .u8 0, .int .u8 0, .int .u8 0, .int .u8 0, .int .u8 0, .int .u8 0, .int .u8 0, .int .u8 0, .int .u8 0, .int .u8 0, .int .u8 0, .int .u8 0, .int .u8 0]) (t := 23) ?hr ?_; (case hd => rfl); (case hg => rfl); (case hr => first | (go_simp; done) | (go_simp; rfl)); intro g21 hgg21 w22 hhg21 hbg21; have H27 := Aside0.mk hhg21; have N23 : g8 ≠ g21 := Nat.ne_of_lt (Nat.lt_of_lt_of_eq (blk_lt H20.out) hgg21.symm); have G24 : w.heap.size ≤ g21 := Nat.le_trans B19.out.size (Nat.le_of_eq hgg21.symm); have B25 := Aside0.mk (below_step B19.out hbg21); have H26 := Aside0.mk (blk_below H20.out hbg21); clear hgg21 hhg21 hbg21 B19 H20) | ((with_reducible refine gate_store (t := 23) (p := _) rfl ?_); refine storeN_event (T := 23) rfl rfl rfl rfl rfl (storeVar_blk H27.out 23 0 [.int .u8 (a 0), .int .u8 (a 1), .int .u8 (a 2), .int .u8 (a 3), .int .u8 (a 4), .int .u8 (a 5), .int .u8 (a 6), .int .u8 (a 7), .int .u8 (a 8), .int .u8 (a 9), .int .u8 (a 10), .int .u8 (a 11), .int .u8 (a 12), .int .u8 (a 13), .int .u8 (a 14), .int .u8 (a 15), .int .u8 (a 16), .int .u8 (a 17), .int .u8 (a 18), .int .u8 (a 19)] (by kernel_rfl) rfl (by simp)) ?_; have H29 := Aside0.mk (show (World.setCells w22 g21 0 [.int .u8 (a 0), .int .u8 (a 1), .int .u8 (a 2), .int .u8 (a 3), .int .u8 (a 4), .int .u8 (a 5), .int .u8 (a 6), .int .u8 (a 7), .int .u8 (a 8), .int .u8 (a 9), .int .u8 (a 10), .int .u8 (a 11), .int .u8 (a 12), .int .u8 (a 13), .int .u8 (a 14), .int .u8 (a 15), .int .u8 (a 16), .int .u8 (a 17), .int .u8 (a 18), .int .u8 (a 19)]).heap[g21]? = some (.cells #[.int .u8 (a 0), .int .u8 (a 1), .int .u8 (a 2), .int .u8 (a 3), .int .u8 (a 4), .int .u8 (a 5), .int .u8 (a 6), .int .u8 (a 7), .int .u8 (a 8), .int .u8 (a 9), .int .u8 (a 10), .int .u8 (a 11), .int .u8 (a 12), .int .u8 (a 13), .int .u8 (a 14), .int .u8 (a 15), .int .u8 (a 16), .int .u8 (a 17), .int .u8 (a 18), .int .u8 (a 19)] 23 (0, 0)) from blk_setCells [] [.int .u8 (a 0), .int .u8 (a 1), .int .u8 (a 2), .int .u8 (a 3), .int .u8 (a 4), .int .u8 (a 5), .int .u8 (a 6), .int .u8 (a 7), .int .u8 (a 8), .int .u8 (a 9), .int .u8 (a 10), .int .u8 (a 11), .int .u8 (a 12), .int .u8 (a 13), .int .u8 (a 14), .int .u8 (a 15), .int .u8 (a 16), .int .u8 (a 17), .int .u8 (a 18), .int .u8 (a 19)] [.int .u8 0, .int .u8 0, .int .u8 0, .int .u8 0, .int .u8 0, .int .u8 0, .int .u8 0, .int .u8 0, .int .u8 0, .int .u8 0, .int .u8 0, .int .u8 0, .int .u8 0, .int .u8 0, .int .u8 0, .int .u8 0, .int .u8 0, .int .u8 0, .int .u8 0, .int .u8 0] [] w22 rfl H27.out); have H30 := Aside0.mk (far_setCells N23 [.int .u8 (a 0), .int .u8 (a 1), .int .u8 (a 2), .int .u8 (a 3), .int .u8 (a 4), .int .u8 (a 5), .int .u8 (a 6), .int .u8 (a 7), .int .u8 (a 8), .int .u8 (a 9), .int .u8 (a 10), .int .u8 (a 11), .int .u8 (a 12), .int .u8 (a 13), .int .u8 (a 14), .int .u8 (a 15), .int .u8 (a 16), .int .u8 (a 17), .int .u8 (a 18), .int .u8 (a 19)] 0 w22 H26.out); have B31 := Aside0.mk (below_setCells G24 [.int .u8 (a 0), .int .u8 (a 1), .int .u8 (a 2), .int .u8 (a 3), .int .u8 (a 4), .int .u8 (a 5), .int .u8 (a 6), .int .u8 (a 7), .int .u8 (a 8), .int .u8 (a 9), .int .u8 (a 10), .int .u8 (a 11), .int .u8 (a 12), .int .u8 (a 13), .int .u8 (a 14), .int .u8 (a 15), .int .u8 (a 16), .int .u8 (a 17), .int .u8 (a 18), .int .u8 (a 19)] 0 w22 B25.out); clear H27 H26 B25; generalize World.setCells w22 g21 0 [.int .u8 (a 0), .int .u8 (a 1), .int .u8 (a 2), .int .u8 (a 3), .int .u8 (a 4), .int .u8 (a 5), .int .u8 (a 6), .int .u8 (a 7), .int .u8 (a 8), .int .u8 (a 9), .int .u8 (a 10), .int .u8 (a 11), .int .u8 (a 12), .int .u8 (a 13), .int .u8 (a 14), .int .u8 (a 15), .int .u8 (a 16), .int .u8 (a 17), .int .u8 (a 18), .int .u8 (a 19)] = w28 at H30 H29 B31 ⊢; generalize Value.tuple #[.agg #[.int .u8 (a 0), .int .u8 (a 1), .int .u8 (a 2), .int .u8 (a 3), .int .u8 (a 4), .int .u8 (a 5), .int .u8 (a 6), .int .u8 (a 7), .int .u8 (a 8), .int .u8 (a 9), .int .u8 (a 10), .int .u8 (a 11), .int .u8 (a 12), .int .u8 (a 13), .int .u8 (a 14), .int .u8 (a 15), .int .u8 (a 16), .int .u8 (a 17), .int .u8 (a 18), .int .u8 (a 19)], .int .i64 0] = V32; generalize Value.agg #[.int .u8 (a 0), .int .u8 (a 1), .int .u8 (a 2), .int .u8 (a 3), .int .u8 (a 4), .int .u8 (a 5), .int .u8 (a 6), .int .u8 (a 7), .int .u8 (a 8), .int .u8 (a 9), .int .u8 (a 10), .int .u8 (a 11), .int .u8 (a 12), .int .u8 (a 13), .int .u8 (a 14), .int .u8 (a 15), .int .u8 (a 16), .int .u8 (a 17), .int .u8 (a 18), .int .u8 (a 19)] = V33))
  refine (Hh3.out w28 (HhT.out.at B31.out) B31.out).mono ?_
  rintro e w34 ⟨rfl, hb_⟩
  have B35 := Aside0.mk (below_step B31.out hb_)
  have H36 := Aside0.mk (blk_below H30.out hb_)
  have H37 := Aside0.mk (blk_below H29.out hb_)
  clear hb_ B31 H30 H29
  go_wp2_with (first | ((with_reducible refine gate_dst (N := 11) rfl ?_); refine box_event ?hg (N := 11) ?hd (cs := #[.int .u8 0, .int .u8 0, .int .u8 0, .int .u8 0, .int .u8 0, .int .u8 0, .int .u8 0, .int .u8 0, .int .u8 0, .int .u8 0, .int .u8 0, .int .u8 0, .int .u8 0, .int .u8 0, .int .u8 0, .int .u8 0, .int .u8 0, .int .u8 0, .int .u8 0, .int .u8 0]) (t := 23) ?hr ?_; (case hd => rfl); (case hg => rfl); (case hr => first | (go_simp; done) | (go_simp; rfl)); intro g38 hgg38 w39 hhg38 hbg38; have H46 := Aside0.mk hhg38; have N40 : g8 ≠ g38 := Nat.ne_of_lt (Nat.lt_of_lt_of_eq (blk_lt H36.out) hgg38.symm); have N41 : g21 ≠ g38 := Nat.ne_of_lt (Nat.lt_of_lt_of_eq (blk_lt H37.out) hgg38.symm); have G42 : w.heap.size ≤ g38 := Nat.le_trans B35.out.size (Nat.le_of_eq hgg38.symm); have B43 := Aside0.mk (below_step B35.out hbg38); have H44 := Aside0.mk (blk_below H36.out hbg38); have H45 := Aside0.mk (blk_below H37.out hbg38); clear hgg38 hhg38 hbg38 B35 H36 H37) | ((with_reducible refine gate_store (t := 23) (p := _) rfl ?_); refine storeN_event (T := 23) rfl rfl rfl rfl rfl (storeVar_blk H46.out 23 0 [.int .u8 (b 0), .int .u8 (b 1), .int .u8 (b 2), .int .u8 (b 3), .int .u8 (b 4), .int .u8 (b 5), .int .u8 (b 6), .int .u8 (b 7), .int .u8 (b 8), .int .u8 (b 9), .int .u8 (b 10), .int .u8 (b 11), .int .u8 (b 12), .int .u8 (b 13), .int .u8 (b 14), .int .u8 (b 15), .int .u8 (b 16), .int .u8 (b 17), .int .u8 (b 18), .int .u8 (b 19)] (by kernel_rfl) rfl (by simp)) ?_; have H48 := Aside0.mk (show (World.setCells w39 g38 0 [.int .u8 (b 0), .int .u8 (b 1), .int .u8 (b 2), .int .u8 (b 3), .int .u8 (b 4), .int .u8 (b 5), .int .u8 (b 6), .int .u8 (b 7), .int .u8 (b 8), .int .u8 (b 9), .int .u8 (b 10), .int .u8 (b 11), .int .u8 (b 12), .int .u8 (b 13), .int .u8 (b 14), .int .u8 (b 15), .int .u8 (b 16), .int .u8 (b 17), .int .u8 (b 18), .int .u8 (b 19)]).heap[g38]? = some (.cells #[.int .u8 (b 0), .int .u8 (b 1), .int .u8 (b 2), .int .u8 (b 3), .int .u8 (b 4), .int .u8 (b 5), .int .u8 (b 6), .int .u8 (b 7), .int .u8 (b 8), .int .u8 (b 9), .int .u8 (b 10), .int .u8 (b 11), .int .u8 (b 12), .int .u8 (b 13), .int .u8 (b 14), .int .u8 (b 15), .int .u8 (b 16), .int .u8 (b 17), .int .u8 (b 18), .int .u8 (b 19)] 23 (0, 0)) from blk_setCells [] [.int .u8 (b 0), .int .u8 (b 1), .int .u8 (b 2), .int .u8 (b 3), .int .u8 (b 4), .int .u8 (b 5), .int .u8 (b 6), .int .u8 (b 7), .int .u8 (b 8), .int .u8 (b 9), .int .u8 (b 10), .int .u8 (b 11), .int .u8 (b 12), .int .u8 (b 13), .int .u8 (b 14), .int .u8 (b 15), .int .u8 (b 16), .int .u8 (b 17), .int .u8 (b 18), .int .u8 (b 19)] [.int .u8 0, .int .u8 0, .int .u8 0, .int .u8 0, .int .u8 0, .int .u8 0, .int .u8 0, .int .u8 0, .int .u8 0, .int .u8 0, .int .u8 0, .int .u8 0, .int .u8 0, .int .u8 0, .int .u8 0, .int .u8 0, .int .u8 0, .int .u8 0, .int .u8 0, .int .u8 0] [] w39 rfl H46.out); have H49 := Aside0.mk (far_setCells N40 [.int .u8 (b 0), .int .u8 (b 1), .int .u8 (b 2), .int .u8 (b 3), .int .u8 (b 4), .int .u8 (b 5), .int .u8 (b 6), .int .u8 (b 7), .int .u8 (b 8), .int .u8 (b 9), .int .u8 (b 10), .int .u8 (b 11), .int .u8 (b 12), .int .u8 (b 13), .int .u8 (b 14), .int .u8 (b 15), .int .u8 (b 16), .int .u8 (b 17), .int .u8 (b 18), .int .u8 (b 19)] 0 w39 H44.out); have H50 := Aside0.mk (far_setCells N41 [.int .u8 (b 0), .int .u8 (b 1), .int .u8 (b 2), .int .u8 (b 3), .int .u8 (b 4), .int .u8 (b 5), .int .u8 (b 6), .int .u8 (b 7), .int .u8 (b 8), .int .u8 (b 9), .int .u8 (b 10), .int .u8 (b 11), .int .u8 (b 12), .int .u8 (b 13), .int .u8 (b 14), .int .u8 (b 15), .int .u8 (b 16), .int .u8 (b 17), .int .u8 (b 18), .int .u8 (b 19)] 0 w39 H45.out); have B51 := Aside0.mk (below_setCells G42 [.int .u8 (b 0), .int .u8 (b 1), .int .u8 (b 2), .int .u8 (b 3), .int .u8 (b 4), .int .u8 (b 5), .int .u8 (b 6), .int .u8 (b 7), .int .u8 (b 8), .int .u8 (b 9), .int .u8 (b 10), .int .u8 (b 11), .int .u8 (b 12), .int .u8 (b 13), .int .u8 (b 14), .int .u8 (b 15), .int .u8 (b 16), .int .u8 (b 17), .int .u8 (b 18), .int .u8 (b 19)] 0 w39 B43.out); clear H46 H44 H45 B43; generalize World.setCells w39 g38 0 [.int .u8 (b 0), .int .u8 (b 1), .int .u8 (b 2), .int .u8 (b 3), .int .u8 (b 4), .int .u8 (b 5), .int .u8 (b 6), .int .u8 (b 7), .int .u8 (b 8), .int .u8 (b 9), .int .u8 (b 10), .int .u8 (b 11), .int .u8 (b 12), .int .u8 (b 13), .int .u8 (b 14), .int .u8 (b 15), .int .u8 (b 16), .int .u8 (b 17), .int .u8 (b 18), .int .u8 (b 19)] = w47 at H49 H50 H48 B51 ⊢; generalize Value.tuple #[.agg #[.int .u8 (b 0), .int .u8 (b 1), .int .u8 (b 2), .int .u8 (b 3), .int .u8 (b 4), .int .u8 (b 5), .int .u8 (b 6), .int .u8 (b 7), .int .u8 (b 8), .int .u8 (b 9), .int .u8 (b 10), .int .u8 (b 11), .int .u8 (b 12), .int .u8 (b 13), .int .u8 (b 14), .int .u8 (b 15), .int .u8 (b 16), .int .u8 (b 17), .int .u8 (b 18), .int .u8 (b 19)], .int .i64 0] = V52; generalize Value.agg #[.int .u8 (b 0), .int .u8 (b 1), .int .u8 (b 2), .int .u8 (b 3), .int .u8 (b 4), .int .u8 (b 5), .int .u8 (b 6), .int .u8 (b 7), .int .u8 (b 8), .int .u8 (b 9), .int .u8 (b 10), .int .u8 (b 11), .int .u8 (b 12), .int .u8 (b 13), .int .u8 (b 14), .int .u8 (b 15), .int .u8 (b 16), .int .u8 (b 17), .int .u8 (b 18), .int .u8 (b 19)] = V53) | ((with_reducible refine gate_dst (N := 66) rfl ?_); refine loadG_event (T := 23) (by rfl) rfl rfl (run_loadVar_row _ _ _ _ _ (0, 0) _ H50.out Tryd.underlying23 rfl (by kernel_rfl)) ?_) | ((with_reducible refine gate_dst (N := 67) rfl ?_); refine loadG_event (T := 23) (by rfl) rfl rfl (run_loadVar_row _ _ _ _ _ (0, 0) _ H48.out Tryd.underlying23 rfl (by kernel_rfl)) ?_))
  refine (Hh4.out w47 (HhT.out.at B51.out)).mono ?_
  rintro e w54 ⟨rfl, hb_⟩
  have B55 := Aside0.mk (below_step B51.out hb_)
  have H56 := Aside0.mk (blk_below H49.out hb_)
  have H57 := Aside0.mk (blk_below H50.out hb_)
  have H58 := Aside0.mk (blk_below H48.out hb_)
  clear hb_ B51 H49 H50 H48
  go_wp2_with (first | ((with_reducible refine gate_dst (N := 13) rfl ?_); refine box_event ?hg (N := 13) ?hd (cs := #[.int .u8 0, .int .u8 0, .int .u8 0, .int .u8 0, .int .u8 0, .int .u8 0, .int .u8 0, .int .u8 0, .int .u8 0, .int .u8 0, .int .u8 0, .int .u8 0, .int .u8 0, .int .u8 0, .int .u8 0, .int .u8 0, .int .u8 0, .int .u8 0, .int .u8 0, .int .u8 0]) (t := 23) ?hr ?_; (case hd => rfl); (case hg => rfl); (case hr => first | (go_simp; done) | (go_simp; rfl)); intro g59 hgg59 w60 hhg59 hbg59; have H69 := Aside0.mk hhg59; have N61 : g8 ≠ g59 := Nat.ne_of_lt (Nat.lt_of_lt_of_eq (blk_lt H56.out) hgg59.symm); have N62 : g21 ≠ g59 := Nat.ne_of_lt (Nat.lt_of_lt_of_eq (blk_lt H57.out) hgg59.symm); have N63 : g38 ≠ g59 := Nat.ne_of_lt (Nat.lt_of_lt_of_eq (blk_lt H58.out) hgg59.symm); have G64 : w.heap.size ≤ g59 := Nat.le_trans B55.out.size (Nat.le_of_eq hgg59.symm); have B65 := Aside0.mk (below_step B55.out hbg59); have H66 := Aside0.mk (blk_below H56.out hbg59); have H67 := Aside0.mk (blk_below H57.out hbg59); have H68 := Aside0.mk (blk_below H58.out hbg59); clear hgg59 hhg59 hbg59 B55 H56 H57 H58) | ((with_reducible refine gate_store (t := 23) (p := _) rfl ?_); refine storeN_event (T := 23) rfl rfl rfl rfl rfl (storeVar_blk H69.out 23 0 [.int .u8 (r 0), .int .u8 (r 1), .int .u8 (r 2), .int .u8 (r 3), .int .u8 (r 4), .int .u8 (r 5), .int .u8 (r 6), .int .u8 (r 7), .int .u8 (r 8), .int .u8 (r 9), .int .u8 (r 10), .int .u8 (r 11), .int .u8 (r 12), .int .u8 (r 13), .int .u8 (r 14), .int .u8 (r 15), .int .u8 (r 16), .int .u8 (r 17), .int .u8 (r 18), .int .u8 (r 19)] (by kernel_rfl) rfl (by simp)) ?_; have H71 := Aside0.mk (show (World.setCells w60 g59 0 [.int .u8 (r 0), .int .u8 (r 1), .int .u8 (r 2), .int .u8 (r 3), .int .u8 (r 4), .int .u8 (r 5), .int .u8 (r 6), .int .u8 (r 7), .int .u8 (r 8), .int .u8 (r 9), .int .u8 (r 10), .int .u8 (r 11), .int .u8 (r 12), .int .u8 (r 13), .int .u8 (r 14), .int .u8 (r 15), .int .u8 (r 16), .int .u8 (r 17), .int .u8 (r 18), .int .u8 (r 19)]).heap[g59]? = some (.cells #[.int .u8 (r 0), .int .u8 (r 1), .int .u8 (r 2), .int .u8 (r 3), .int .u8 (r 4), .int .u8 (r 5), .int .u8 (r 6), .int .u8 (r 7), .int .u8 (r 8), .int .u8 (r 9), .int .u8 (r 10), .int .u8 (r 11), .int .u8 (r 12), .int .u8 (r 13), .int .u8 (r 14), .int .u8 (r 15), .int .u8 (r 16), .int .u8 (r 17), .int .u8 (r 18), .int .u8 (r 19)] 23 (0, 0)) from blk_setCells [] [.int .u8 (r 0), .int .u8 (r 1), .int .u8 (r 2), .int .u8 (r 3), .int .u8 (r 4), .int .u8 (r 5), .int .u8 (r 6), .int .u8 (r 7), .int .u8 (r 8), .int .u8 (r 9), .int .u8 (r 10), .int .u8 (r 11), .int .u8 (r 12), .int .u8 (r 13), .int .u8 (r 14), .int .u8 (r 15), .int .u8 (r 16), .int .u8 (r 17), .int .u8 (r 18), .int .u8 (r 19)] [.int .u8 0, .int .u8 0, .int .u8 0, .int .u8 0, .int .u8 0, .int .u8 0, .int .u8 0, .int .u8 0, .int .u8 0, .int .u8 0, .int .u8 0, .int .u8 0, .int .u8 0, .int .u8 0, .int .u8 0, .int .u8 0, .int .u8 0, .int .u8 0, .int .u8 0, .int .u8 0] [] w60 rfl H69.out); have H72 := Aside0.mk (far_setCells N61 [.int .u8 (r 0), .int .u8 (r 1), .int .u8 (r 2), .int .u8 (r 3), .int .u8 (r 4), .int .u8 (r 5), .int .u8 (r 6), .int .u8 (r 7), .int .u8 (r 8), .int .u8 (r 9), .int .u8 (r 10), .int .u8 (r 11), .int .u8 (r 12), .int .u8 (r 13), .int .u8 (r 14), .int .u8 (r 15), .int .u8 (r 16), .int .u8 (r 17), .int .u8 (r 18), .int .u8 (r 19)] 0 w60 H66.out); have H73 := Aside0.mk (far_setCells N62 [.int .u8 (r 0), .int .u8 (r 1), .int .u8 (r 2), .int .u8 (r 3), .int .u8 (r 4), .int .u8 (r 5), .int .u8 (r 6), .int .u8 (r 7), .int .u8 (r 8), .int .u8 (r 9), .int .u8 (r 10), .int .u8 (r 11), .int .u8 (r 12), .int .u8 (r 13), .int .u8 (r 14), .int .u8 (r 15), .int .u8 (r 16), .int .u8 (r 17), .int .u8 (r 18), .int .u8 (r 19)] 0 w60 H67.out); have H74 := Aside0.mk (far_setCells N63 [.int .u8 (r 0), .int .u8 (r 1), .int .u8 (r 2), .int .u8 (r 3), .int .u8 (r 4), .int .u8 (r 5), .int .u8 (r 6), .int .u8 (r 7), .int .u8 (r 8), .int .u8 (r 9), .int .u8 (r 10), .int .u8 (r 11), .int .u8 (r 12), .int .u8 (r 13), .int .u8 (r 14), .int .u8 (r 15), .int .u8 (r 16), .int .u8 (r 17), .int .u8 (r 18), .int .u8 (r 19)] 0 w60 H68.out); have B75 := Aside0.mk (below_setCells G64 [.int .u8 (r 0), .int .u8 (r 1), .int .u8 (r 2), .int .u8 (r 3), .int .u8 (r 4), .int .u8 (r 5), .int .u8 (r 6), .int .u8 (r 7), .int .u8 (r 8), .int .u8 (r 9), .int .u8 (r 10), .int .u8 (r 11), .int .u8 (r 12), .int .u8 (r 13), .int .u8 (r 14), .int .u8 (r 15), .int .u8 (r 16), .int .u8 (r 17), .int .u8 (r 18), .int .u8 (r 19)] 0 w60 B65.out); clear H69 H66 H67 H68 B65; generalize World.setCells w60 g59 0 [.int .u8 (r 0), .int .u8 (r 1), .int .u8 (r 2), .int .u8 (r 3), .int .u8 (r 4), .int .u8 (r 5), .int .u8 (r 6), .int .u8 (r 7), .int .u8 (r 8), .int .u8 (r 9), .int .u8 (r 10), .int .u8 (r 11), .int .u8 (r 12), .int .u8 (r 13), .int .u8 (r 14), .int .u8 (r 15), .int .u8 (r 16), .int .u8 (r 17), .int .u8 (r 18), .int .u8 (r 19)] = w70 at H72 H73 H74 H71 B75 ⊢; generalize Value.tuple #[.agg #[.int .u8 (r 0), .int .u8 (r 1), .int .u8 (r 2), .int .u8 (r 3), .int .u8 (r 4), .int .u8 (r 5), .int .u8 (r 6), .int .u8 (r 7), .int .u8 (r 8), .int .u8 (r 9), .int .u8 (r 10), .int .u8 (r 11), .int .u8 (r 12), .int .u8 (r 13), .int .u8 (r 14), .int .u8 (r 15), .int .u8 (r 16), .int .u8 (r 17), .int .u8 (r 18), .int .u8 (r 19)], .int .i64 0] = V76; generalize Value.agg #[.int .u8 (r 0), .int .u8 (r 1), .int .u8 (r 2), .int .u8 (r 3), .int .u8 (r 4), .int .u8 (r 5), .int .u8 (r 6), .int .u8 (r 7), .int .u8 (r 8), .int .u8 (r 9), .int .u8 (r 10), .int .u8 (r 11), .int .u8 (r 12), .int .u8 (r 13), .int .u8 (r 14), .int .u8 (r 15), .int .u8 (r 16), .int .u8 (r 17), .int .u8 (r 18), .int .u8 (r 19)] = V77))
  refine (Hh5.out w70 (HhT.out.at B75.out) B75.out).mono ?_
  rintro e w78 ⟨vp_, rfl, hR_, hb_⟩
  have B79 := Aside0.mk (below_step B75.out hb_)
  have H80 := Aside0.mk (blk_below H72.out hb_)
  have H81 := Aside0.mk (blk_below H73.out hb_)
  have H82 := Aside0.mk (blk_below H74.out hb_)
  have H83 := Aside0.mk (blk_below H71.out hb_)
  clear hb_ B75 H72 H73 H74 H71
  obtain ⟨rp, cp, rfl, hle_, hC_⟩ := Kd.R_reads hR_
  obtain ⟨m, hm_⟩ : ∃ m : Nat, m = ps.length := ⟨_, rfl⟩
  rw [← hm_]
  have Hm := Aside0.mk hm_
  rw [← hm_] at hC_ hle_
  clear hm_
  have BWP := Aside0.mk B79.out
  have RP := Aside0.mk hC_
  have LP := Aside0.mk hle_
  clear hC_ hle_ hR_
  have m1 : ((m : Int) < 1) = False := eq_false (by rw [Hm.out, Hhps.out, List.length_append, List.length_singleton]; omega)
  have m2 : (m < 1) = False := eq_false (by rw [Hm.out, Hhps.out, List.length_append, List.length_singleton]; omega)
  have m3 : (m = 0) = False := eq_false (by rw [Hm.out, Hhps.out, List.length_append, List.length_singleton]; omega)
  go_wp2_with (first | ((with_reducible refine gate_dst (N := 92) rfl ?_); refine loadG_event (T := 23) (by rfl) rfl rfl (run_loadVar_row _ _ _ _ _ (0, 0) _ H80.out Tryd.underlying23 rfl (by kernel_rfl)) ?_) | ((with_reducible refine gate_dst (N := 93) rfl ?_); refine loadG_event (T := 23) (by rfl) rfl rfl (run_loadVar_row _ _ _ _ _ (0, 0) _ H83.out Tryd.underlying23 rfl (by kernel_rfl)) ?_))
  refine (Hh6.out w78 (HhT.out.at B79.out) B79.out).mono ?_
  rintro e w84 ⟨vh_, rfl, hR_, hb_⟩
  have B85 := Aside0.mk (below_step B79.out hb_)
  have B86 := Aside0.mk (hb_)
  have H87 := Aside0.mk (blk_below H80.out hb_)
  have H88 := Aside0.mk (blk_below H81.out hb_)
  have H89 := Aside0.mk (blk_below H82.out hb_)
  have H90 := Aside0.mk (blk_below H83.out hb_)
  clear hb_ B79 H80 H81 H82 H83
  have HO := Aside0.mk hR_
  clear hR_
  go_wp2_with (first | ((with_reducible refine gate_dst (N := 131) rfl ?_); refine loadG_event (T := 23) (by rfl) rfl rfl (run_loadVar_row _ _ _ _ _ (0, 0) _ H88.out Tryd.underlying23 rfl (by kernel_rfl)) ?_) | ((with_reducible refine gate_bltn (b := .append) (xs := #[.tmp 130, .tmp 132]) rfl ?_); at_builtin; refine Kd.R_append kdg (w0 := w78) w78.heap.size rfl (.tmp 130) (.tmp 132) 55 23 (.agg #[.int .u8 0, .int .u8 0, .int .u8 0, .int .u8 0, .int .u8 0, .int .u8 0, .int .u8 0, .int .u8 0, .int .u8 0, .int .u8 0, .int .u8 0, .int .u8 0, .int .u8 0, .int .u8 0, .int .u8 0, .int .u8 0, .int .u8 0, .int .u8 0, .int .u8 0, .int .u8 0]) 20 rfl Tryd.underlying55 info23p rfl (by decide) (by decide) _ ph a [.int .u8 (a 0), .int .u8 (a 1), .int .u8 (a 2), .int .u8 (a 3), .int .u8 (a 4), .int .u8 (a 5), .int .u8 (a 6), .int .u8 (a 7), .int .u8 (a 8), .int .u8 (a 9), .int .u8 (a 10), .int .u8 (a 11), .int .u8 (a 12), .int .u8 (a 13), .int .u8 (a 14), .int .u8 (a 15), .int .u8 (a 16), .int .u8 (a 17), .int .u8 (a 18), .int .u8 (a 19)] (fun _ => True) (fun _ => False) rfl rfl ?aP (fun _ hk => hk.elim) ?aF ?aO ?aB ?aS ?aL ?_; (case aP => exact dgM _ _ _ _); (case aB => first | exact B86.out | exact below_alloc B86.out _); (case aF => exact (fun _ _ => trivial)); (case aO => exact (by (with_reducible repeat (first | apply Kd.R_alloc)); exact HO.out)); (case aS => first | exact below_size B86.out | exact below_size (below_alloc B86.out _)); (case aL => have := Hhp.out; omega); intro v200 w200 ho hb hg hat; have HO200 := Aside0.mk ho; have B200 := Aside0.mk hb; clear ho hb hg hat HO B86))
  have HO201 := Aside0.mk (show Kd.R kdg 23 w200 w78.heap.size (fun _ => True) v200 ps by rw [Hhps.out]; exact HO200.out)
  obtain ⟨rh, ch, rfl, hle_, hC_⟩ := Kd.R_reads HO201.out
  have HM := Hm.out
  subst HM
  have RH := Aside0.mk hC_
  clear hC_ hle_ HO200 HO201
  have BF := Aside0.mk (below_step BWP.out B200.out)
  refine (same_sums rp rh cp ch ps w200 (Kd.C_below RP.out B200.out) RH.out (by have := Hhp.out; rw [Hhps.out, List.length_append, List.length_singleton]; omega)).mono ?_
  rintro e w201 ⟨rfl, hb_⟩
  have BG := Aside0.mk (below_step BF.out hb_)
  clear hb_
  go_wp2_with fail
  go_ret
  exact ⟨rfl, BG.out⟩
end Go.Proofs.YtbldecdipicddaaDoor.Hand
