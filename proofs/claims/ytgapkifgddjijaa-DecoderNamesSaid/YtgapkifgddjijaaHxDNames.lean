/- The walk of the law DecoderNames. Written by wip/c2/mkdnames.py. -/
import Derived.Test.YtgapkifgddjijaaHxKit
import Derived.Test.YtgapkifgddjijaaHxAlloc
set_option linter.unusedSimpArgs false
set_option linter.unusedVariables false
namespace Go.Proofs.Ytgapkifgddjijaa.Hx
open Go Go.RowKit Go.Proofs.YtgapkifgddjijaaW.PrintWords Go.Proofs.YtgapkifgddjijaaW.PrintLast Go.Proofs.YtgapkifgddjijaaW.PrintMore
def dnT.T2 : Bool × List (List Nat × List Nat) := (true, [([], []), ([], []), ([], []), ([], []), ([], []), ([], []), ([], []), ([], []), ([], []), ([], []), ([], []), ([], []), ([6, 0, 0, 6, 7, 8, 9, 10, 11], [0, 6]), ([7, 1, 12, 0, 1, 6, 7, 8, 9, 10, 11, 12], [1, 7]), ([8, 2, 13, 0, 1, 2, 6, 7, 8, 9, 10, 11, 12, 13], [2, 8]), ([9, 3, 14, 0, 1, 2, 3, 6, 7, 8, 9, 10, 11, 12, 13, 14], [3, 9]), ([10, 4, 15, 0, 1, 2, 3, 4, 6, 7, 8, 9, 10, 11, 12, 13, 14, 15], [4, 10]), ([11, 5, 16, 0, 1, 2, 3, 4, 5, 6, 7, 8, 9, 10, 11, 12, 13, 14, 15, 16], [5, 11])])
def dnT.B2 : List Nat := [0, 0, 0, 0, 0, 0, 0, 0, 0, 0, 0, 0, 4033, 8131, 16327, 32719, 65503, 131071]
theorem dnT.tab2 : rtab .any (opsOf Try.f14 2) = dnT.T2 := by kernel_rfl
theorem dnT.bits2 : waitsOk dnT.T2.2 dnT.B2 = true := by kernel_rfl
set_option maxHeartbeats 6400000 in
set_option maxRecDepth 100000 in
theorem dnames_walk (w : World)
    (g0 : ∀ (W : World), Calls Try.prog 50 #[.agg #[.int .u32 0, .int .u32 0, .int .u32 0, .slice none 0 0, .int .i64 0], .int .i64 (-1)] W fun e w' => ∃ v0_ : Value, e = .returned (.tuple #[.agg #[.int .u32 0, .int .u32 0, .int .u32 0, v0_, .int .i64 0], .bool false, .int .i64 8]) ∧ Kd.R (Kd.int .u8) 5 w' W.heap.size (fun _ => True) v0_ [] ∧ Below W.heap.size W w')
    (o0 : ∀ (W : World), Calls Try.prog 52 #[.agg #[.int .u32 0, .int .u32 0, .int .u32 0, .slice none 0 0, .int .i64 0]] W fun e w' => e = .returned (.tuple #[.int .i64 0, .int .i64 8]) ∧ Below W.heap.size W w')
    (c0 : ∀ (W : World), Calls Try.prog 55 #[.agg #[.int .u32 0, .int .u32 0, .int .u32 0, .slice none 0 0, .int .i64 0]] W fun e w' => e = .returned (.int .i64 8) ∧ Below W.heap.size W w')
    (g1 : ∀ (W : World), Calls Try.prog 50 #[.agg #[.int .u32 5, .int .u32 4294967295, .int .u32 4, .slice none 0 0, .int .i64 4], .int .i64 (-1)] W fun e w' => ∃ v0_ : Value, e = .returned (.tuple #[.agg #[.int .u32 0, .int .u32 0, .int .u32 0, v0_, .int .i64 0], .bool false, .int .i64 8]) ∧ Kd.R (Kd.int .u8) 5 w' W.heap.size (fun _ => True) v0_ [] ∧ Below W.heap.size W w')
    (o1 : ∀ (W : World), Calls Try.prog 52 #[.agg #[.int .u32 5, .int .u32 4294967295, .int .u32 4, .slice none 0 0, .int .i64 4]] W fun e w' => e = .returned (.tuple #[.int .i64 0, .int .i64 8]) ∧ Below W.heap.size W w')
    (c1 : ∀ (W : World), Calls Try.prog 55 #[.agg #[.int .u32 5, .int .u32 4294967295, .int .u32 4, .slice none 0 0, .int .i64 4]] W fun e w' => e = .returned (.int .i64 8) ∧ Below W.heap.size W w')
    (g2 : ∀ (W : World), Calls Try.prog 50 #[.agg #[.int .u32 0, .int .u32 16777216, .int .u32 16777217, .slice none 0 0, .int .i64 4], .int .i64 (-1)] W fun e w' => ∃ v0_ : Value, e = .returned (.tuple #[.agg #[.int .u32 0, .int .u32 0, .int .u32 0, v0_, .int .i64 0], .bool false, .int .i64 8]) ∧ Kd.R (Kd.int .u8) 5 w' W.heap.size (fun _ => True) v0_ [] ∧ Below W.heap.size W w')
    (o2 : ∀ (W : World), Calls Try.prog 52 #[.agg #[.int .u32 0, .int .u32 16777216, .int .u32 16777217, .slice none 0 0, .int .i64 4]] W fun e w' => e = .returned (.tuple #[.int .i64 0, .int .i64 8]) ∧ Below W.heap.size W w')
    (c2 : ∀ (W : World), Calls Try.prog 55 #[.agg #[.int .u32 0, .int .u32 16777216, .int .u32 16777217, .slice none 0 0, .int .i64 4]] W fun e w' => e = .returned (.int .i64 8) ∧ Below W.heap.size W w')
    (g3 : ∀ (W : World), Calls Try.prog 50 #[.agg #[.int .u32 0, .int .u32 16777215, .int .u32 0, .slice none 0 0, .int .i64 4], .int .i64 (-1)] W fun e w' => ∃ v0_ : Value, e = .returned (.tuple #[.agg #[.int .u32 0, .int .u32 0, .int .u32 0, v0_, .int .i64 0], .bool false, .int .i64 8]) ∧ Kd.R (Kd.int .u8) 5 w' W.heap.size (fun _ => True) v0_ [] ∧ Below W.heap.size W w')
    (o3 : ∀ (W : World), Calls Try.prog 52 #[.agg #[.int .u32 0, .int .u32 16777215, .int .u32 0, .slice none 0 0, .int .i64 4]] W fun e w' => e = .returned (.tuple #[.int .i64 0, .int .i64 8]) ∧ Below W.heap.size W w')
    (c3 : ∀ (W : World), Calls Try.prog 55 #[.agg #[.int .u32 0, .int .u32 16777215, .int .u32 0, .slice none 0 0, .int .i64 4]] W fun e w' => e = .returned (.int .i64 8) ∧ Below W.heap.size W w')
    (g4 : ∀ (W : World), Calls Try.prog 50 #[.agg #[.int .u32 0, .int .u32 4294967295, .int .u32 0, .slice none 0 0, .int .i64 3], .int .i64 (-1)] W fun e w' => ∃ v0_ : Value, e = .returned (.tuple #[.agg #[.int .u32 0, .int .u32 0, .int .u32 0, v0_, .int .i64 0], .bool false, .int .i64 8]) ∧ Kd.R (Kd.int .u8) 5 w' W.heap.size (fun _ => True) v0_ [] ∧ Below W.heap.size W w')
    (o4 : ∀ (W : World), Calls Try.prog 52 #[.agg #[.int .u32 0, .int .u32 4294967295, .int .u32 0, .slice none 0 0, .int .i64 3]] W fun e w' => e = .returned (.tuple #[.int .i64 0, .int .i64 8]) ∧ Below W.heap.size W w')
    (c4 : ∀ (W : World), Calls Try.prog 55 #[.agg #[.int .u32 0, .int .u32 4294967295, .int .u32 0, .slice none 0 0, .int .i64 3]] W fun e w' => e = .returned (.int .i64 8) ∧ Below W.heap.size W w')
    (g5 : ∀ (W : World), Calls Try.prog 50 #[.agg #[.int .u32 0, .int .u32 4294967295, .int .u32 0, .slice none 0 0, .int .i64 1000001], .int .i64 (-1)] W fun e w' => ∃ v0_ : Value, e = .returned (.tuple #[.agg #[.int .u32 0, .int .u32 0, .int .u32 0, v0_, .int .i64 0], .bool false, .int .i64 8]) ∧ Kd.R (Kd.int .u8) 5 w' W.heap.size (fun _ => True) v0_ [] ∧ Below W.heap.size W w')
    (o5 : ∀ (W : World), Calls Try.prog 52 #[.agg #[.int .u32 0, .int .u32 4294967295, .int .u32 0, .slice none 0 0, .int .i64 1000001]] W fun e w' => e = .returned (.tuple #[.int .i64 0, .int .i64 8]) ∧ Below W.heap.size W w')
    (c5 : ∀ (W : World), Calls Try.prog 55 #[.agg #[.int .u32 0, .int .u32 4294967295, .int .u32 0, .slice none 0 0, .int .i64 1000001]] W fun e w' => e = .returned (.int .i64 8) ∧ Below W.heap.size W w')
    (g6 : ∀ (W : World) (A : Option Addr) (c : Nat), Kd.C (Kd.int .u8) W A 20001 (List.replicate 20001 (0 : Int)) → 20001 ≤ c → Calls Try.prog 50 #[.agg #[.int .u32 0, .int .u32 4294967295, .int .u32 0, .slice A 20001 c, .int .i64 4], .int .i64 (-1)] W fun e w' => ∃ v0_ : Value, e = .returned (.tuple #[.agg #[.int .u32 0, .int .u32 0, .int .u32 0, v0_, .int .i64 0], .bool false, .int .i64 8]) ∧ Kd.R (Kd.int .u8) 5 w' W.heap.size (fun _ => True) v0_ [] ∧ Below W.heap.size W w')
    (o6 : ∀ (W : World) (A : Option Addr) (c : Nat), Kd.C (Kd.int .u8) W A 20001 (List.replicate 20001 (0 : Int)) → 20001 ≤ c → Calls Try.prog 52 #[.agg #[.int .u32 0, .int .u32 4294967295, .int .u32 0, .slice A 20001 c, .int .i64 4]] W fun e w' => e = .returned (.tuple #[.int .i64 0, .int .i64 8]) ∧ Below W.heap.size W w')
    (c6 : ∀ (W : World) (A : Option Addr) (c : Nat), Kd.C (Kd.int .u8) W A 20001 (List.replicate 20001 (0 : Int)) → 20001 ≤ c → Calls Try.prog 55 #[.agg #[.int .u32 0, .int .u32 4294967295, .int .u32 0, .slice A 20001 c, .int .i64 4]] W fun e w' => e = .returned (.int .i64 8) ∧ Below W.heap.size W w')
    (na : ∀ (W : World) (A : Option Addr) (c : Nat), Kd.C (Kd.int .u8) W A 20001 (List.replicate 20001 (0 : Int)) → 20001 ≤ c → Calls Try.prog 48 #[.slice A 20001 c] W fun e w' => ∃ v0_ : Value, e = .returned (.tuple #[.agg #[.int .u32 0, .int .u32 0, .int .u32 0, v0_, .int .i64 0], .int .i64 4]) ∧ Kd.R (Kd.int .u8) 5 w' W.heap.size (fun _ => True) v0_ [] ∧ Below W.heap.size W w')
    (nb : ∀ (W : World) (A : Option Addr) (c : Nat), Kd.C (Kd.int .u8) W A 5 [1, 2, 3, 4, 5] → 5 ≤ c → Calls Try.prog 48 #[.slice A 5 c] W fun e w' => ∃ v0_ : Value, e = .returned (.tuple #[.agg #[.int .u32 0, .int .u32 4294967295, .int .u32 16909060, v0_, .int .i64 4], .int .i64 0]) ∧ Kd.R (Kd.int .u8) 5 w' W.heap.size (fun _ => True) v0_ [1, 2, 3, 4, 5] ∧ Below W.heap.size W w')
    (ov : ∀ (W : World) (A : Option Addr) (c : Nat), Kd.C (Kd.int .u8) W A 5 [1, 2, 3, 4, 5] → 5 ≤ c → Calls Try.prog 52 #[.agg #[.int .u32 0, .int .u32 4294967295, .int .u32 16909060, .slice A 5 c, .int .i64 4]] W fun e w' => e = .returned (.tuple #[.int .i64 1, .int .i64 0]) ∧ Below W.heap.size W w')
    (ga : ∀ (W : World), Calls Try.prog 50 #[.agg #[.int .u32 0, .int .u32 4294967295, .int .u32 0, .slice none 0 0, .int .i64 4], .int .i64 4096] W fun e w' => ∃ v0_ : Value, e = .returned (.tuple #[.agg #[.int .u32 0, .int .u32 0, .int .u32 0, v0_, .int .i64 0], .bool false, .int .i64 2]) ∧ Kd.R (Kd.int .u8) 5 w' W.heap.size (fun _ => True) v0_ [] ∧ Below W.heap.size W w')
    (gb : ∀ (W : World), Calls Try.prog 50 #[.agg #[.int .u32 0, .int .u32 4294967295, .int .u32 0, .slice none 0 0, .int .i64 4], .int .i64 (-1)] W fun e w' => ∃ v0_ : Value, e = .returned (.tuple #[.agg #[.int .u32 0, .int .u32 0, .int .u32 0, v0_, .int .i64 0], .bool false, .int .i64 2]) ∧ Kd.R (Kd.int .u8) 5 w' W.heap.size (fun _ => True) v0_ [] ∧ Below W.heap.size W w')
    (gc : ∀ (W : World), Calls Try.prog 50 #[.agg #[.int .u32 16777215, .int .u32 16777216, .int .u32 16777215, .slice none 0 0, .int .i64 999998], .int .i64 0] W fun e w' => ∃ v0_ : Value, e = .returned (.tuple #[.agg #[.int .u32 0, .int .u32 0, .int .u32 0, v0_, .int .i64 0], .bool false, .int .i64 4]) ∧ Kd.R (Kd.int .u8) 5 w' W.heap.size (fun _ => True) v0_ [] ∧ Below W.heap.size W w')
    (gd : ∀ (W : World), Calls Try.prog 50 #[.agg #[.int .u32 16777215, .int .u32 16777216, .int .u32 16777215, .slice none 0 0, .int .i64 999996], .int .i64 0] W fun e w' => ∃ v0_ : Value, e = .returned (.tuple #[.agg #[.int .u32 0, .int .u32 4294967295, .int .u32 0, v0_, .int .i64 1000000], .bool true, .int .i64 0]) ∧ Kd.R (Kd.int .u8) 5 w' W.heap.size (fun _ => True) v0_ [] ∧ Below W.heap.size W w')
    (ra : ∀ (W : World) (A : Option Addr) (c : Nat) (B : Option Addr) (d : Nat), Kd.C (Kd.int .u8) W A 20001 (List.replicate 20001 (0 : Int)) → 20001 ≤ c → Kd.C (Kd.int .i64) W B 1 [-1] → 1 ≤ d → Calls Try.prog 39 #[.slice A 20001 c, .slice B 1 d] W fun e w' => ∃ v0_ : Value, e = .returned (.tuple #[v0_, .int .i64 4]) ∧ Kd.R Kd.bool 4 w' W.heap.size (fun _ => True) v0_ [] ∧ Below W.heap.size W w')
    (rb : ∀ (W : World) (A : Option Addr) (c : Nat), Kd.C (Kd.int .i64) W A 2001 (List.replicate 2001 (0 : Int)) → 2001 ≤ c → Calls Try.prog 39 #[.slice none 0 0, .slice A 2001 c] W fun e w' => ∃ v0_ : Value, e = .returned (.tuple #[v0_, .int .i64 4]) ∧ Kd.R Kd.bool 4 w' W.heap.size (fun _ => True) v0_ [] ∧ Below W.heap.size W w')
    (rc : ∀ (W : World) (A : Option Addr) (c : Nat), Kd.C (Kd.int .i64) W A 1 [4096] → 1 ≤ c → Calls Try.prog 39 #[.slice none 0 0, .slice A 1 c] W fun e w' => ∃ v0_ : Value, e = .returned (.tuple #[v0_, .int .i64 2]) ∧ Kd.R Kd.bool 4 w' W.heap.size (fun _ => True) v0_ [] ∧ Below W.heap.size W w')
    (rd : ∀ (W : World), Calls Try.prog 39 #[.slice none 0 0, .slice none 0 0] W fun e w' => ∃ v0_ : Value, e = .returned (.tuple #[v0_, .int .i64 0]) ∧ Kd.R Kd.bool 4 w' W.heap.size (fun _ => True) v0_ [] ∧ Below W.heap.size W w')
    (al : ∀ (W : World), Calls Try.prog 59 #[] W fun e w' => e = .returned (.bool true) ∧ Below W.heap.size W w') :
    Calls Try.prog 14 #[] w fun e w' => e = .returned (.bool true) ∧ Below w.heap.size w w' := by
  have Hg0 := Aside0.mk g0
  have Ho0 := Aside0.mk o0
  have Hc0 := Aside0.mk c0
  have Hg1 := Aside0.mk g1
  have Ho1 := Aside0.mk o1
  have Hc1 := Aside0.mk c1
  have Hg2 := Aside0.mk g2
  have Ho2 := Aside0.mk o2
  have Hc2 := Aside0.mk c2
  have Hg3 := Aside0.mk g3
  have Ho3 := Aside0.mk o3
  have Hc3 := Aside0.mk c3
  have Hg4 := Aside0.mk g4
  have Ho4 := Aside0.mk o4
  have Hc4 := Aside0.mk c4
  have Hg5 := Aside0.mk g5
  have Ho5 := Aside0.mk o5
  have Hc5 := Aside0.mk c5
  have Hg6 := Aside0.mk g6
  have Ho6 := Aside0.mk o6
  have Hc6 := Aside0.mk c6
  have Hna := Aside0.mk na
  have Hnb := Aside0.mk nb
  have Hov := Aside0.mk ov
  have Hga := Aside0.mk ga
  have Hgb := Aside0.mk gb
  have Hgc := Aside0.mk gc
  have Hgd := Aside0.mk gd
  have Hra := Aside0.mk ra
  have Hrb := Aside0.mk rb
  have Hrc := Aside0.mk rc
  have Hrd := Aside0.mk rd
  have Hal := Aside0.mk al
  clear g0 o0 c0 g1 o1 c1 g2 o2 c2 g3 o3 c3 g4 o4 c4 g5 o5 c5 g6 o6 c6 na nb ov ga gb gc gd ra rb rc rd al
  go_enter Try.func14, Try.ntmps14
  dsimp only [List.append]
  go_wp2_with (first | ((with_reducible refine gate_dst (N := 1) rfl ?_); refine box_event ?hg (N := 1) ?hd (cs := #[.int .u32 0, .int .u32 0, .int .u32 0, .slice none 0 0, .int .i64 0]) (t := 72) ?hr ?_; (case hd => rfl); (case hg => rfl); (case hr => first | (go_simp; done) | (go_simp; rfl)); intro g1 hgg1 w2 hhg1 hbg1; have H5 := Aside0.mk hhg1; have G3 : w.heap.size ≤ g1 := Nat.le_of_eq hgg1.symm; have B4 := Aside0.mk (hbg1); clear hgg1 hhg1 hbg1) | ((with_reducible refine gate_store (t := 72) (p := _) rfl ?_); refine storeN_event (T := 72) rfl rfl rfl rfl rfl (storeVar_blk H5.out 72 0 [.int .u32 0, .int .u32 4294967295, .int .u32 0, .slice none 0 0, .int .i64 4] (by kernel_rfl) rfl (by simp)) ?_; have H7 := Aside0.mk (show (World.setCells w2 g1 0 [.int .u32 0, .int .u32 4294967295, .int .u32 0, .slice none 0 0, .int .i64 4]).heap[g1]? = some (.cells #[.int .u32 0, .int .u32 4294967295, .int .u32 0, .slice none 0 0, .int .i64 4] 72 (0, 0)) from blk_setCells [] [.int .u32 0, .int .u32 4294967295, .int .u32 0, .slice none 0 0, .int .i64 4] [.int .u32 0, .int .u32 0, .int .u32 0, .slice none 0 0, .int .i64 0] [] w2 rfl H5.out); have B8 := Aside0.mk (below_setCells G3 [.int .u32 0, .int .u32 4294967295, .int .u32 0, .slice none 0 0, .int .i64 4] 0 w2 B4.out); clear H5 B4; generalize World.setCells w2 g1 0 [.int .u32 0, .int .u32 4294967295, .int .u32 0, .slice none 0 0, .int .i64 4] = w6 at H7 B8 ⊢))
  have H10 := Aside0.mk (blk_drew H7.out)
  have B11 := Aside0.mk (below_drew B8.out)
  clear H7 B8
  refine start_ (n := 18) (S := fun w' => (loadVar 72 ⟨g1, 0, none⟩).run Try.prog w' = .ok (.agg #[.int .u32 0, .int .u32 4294967295, .int .u32 0, .slice none 0 0, .int .i64 4]) w') (ds := [17]) #[false, false, false, false, false, false, false, false, false, false, false, false, false, false, false, false, false, false] (by kernel_rfl) rfl rfl ((run_loadVar_row _ _ _ _ _ (0, 0) _ H10.out Try.underlying72 rfl (by kernel_rfl))) (fun hHeld => ?_)
  refine with_tabW dnT.tab2 dnT.bits2 (fun HT_ HW_ => ?_)
  generalize World.drew w6 = w9 at H10 B11 hHeld ⊢
  refine take_ (i := 0) (N := some 43) (v := ?_) (a' := ?_) #[true, false, false, false, false, false, false, false, false, false, false, false, false, false, false, false, false, false] rfl rfl (take_ofW HT_.out HW_.out (by kernel_rfl)) (fun _ _ _ h => h) (Or.inl ⟨by rfl, ?_⟩) hHeld ?_ ?_
  rotate_left
  · intro w' s0
    refine (loadN_run (T := 72) rfl rfl s0).trans ?_
    with_reducible rfl
  rotate_left
  · simp only [Act.put, List.setIfInBounds_toArray, List.set_cons_zero, List.set_cons_succ, i64_w, i32_w]
    rfl
  refine take_ (i := 1) (N := some 44) (v := ?_) (a' := ?_) #[true, true, false, false, false, false, false, false, false, false, false, false, false, false, false, false, false, false] rfl rfl (take_ofW HT_.out HW_.out (by kernel_rfl)) (fun _ _ _ h => h) (Or.inl ⟨by rfl, ?_⟩) hHeld ?_ ?_
  rotate_left
  · intro w' s0
    refine (loadN_run (T := 72) rfl rfl s0).trans ?_
    with_reducible rfl
  rotate_left
  · simp only [Act.put, List.setIfInBounds_toArray, List.set_cons_zero, List.set_cons_succ, i64_w, i32_w]
    rfl
  refine take_ (i := 2) (N := some 45) (v := ?_) (a' := ?_) #[true, true, true, false, false, false, false, false, false, false, false, false, false, false, false, false, false, false] rfl rfl (take_ofW HT_.out HW_.out (by kernel_rfl)) (fun _ _ _ h => h) (Or.inl ⟨by rfl, ?_⟩) hHeld ?_ ?_
  rotate_left
  · intro w' s0
    refine (loadN_run (T := 72) rfl rfl s0).trans ?_
    with_reducible rfl
  rotate_left
  · simp only [Act.put, List.setIfInBounds_toArray, List.set_cons_zero, List.set_cons_succ, i64_w, i32_w]
    rfl
  refine take_ (i := 3) (N := some 46) (v := ?_) (a' := ?_) #[true, true, true, true, false, false, false, false, false, false, false, false, false, false, false, false, false, false] rfl rfl (take_ofW HT_.out HW_.out (by kernel_rfl)) (fun _ _ _ h => h) (Or.inl ⟨by rfl, ?_⟩) hHeld ?_ ?_
  rotate_left
  · intro w' s0
    refine (loadN_run (T := 72) rfl rfl s0).trans ?_
    with_reducible rfl
  rotate_left
  · simp only [Act.put, List.setIfInBounds_toArray, List.set_cons_zero, List.set_cons_succ, i64_w, i32_w]
    rfl
  refine take_ (i := 4) (N := some 47) (v := ?_) (a' := ?_) #[true, true, true, true, true, false, false, false, false, false, false, false, false, false, false, false, false, false] rfl rfl (take_ofW HT_.out HW_.out (by kernel_rfl)) (fun _ _ _ h => h) (Or.inl ⟨by rfl, ?_⟩) hHeld ?_ ?_
  rotate_left
  · intro w' s0
    refine (loadN_run (T := 72) rfl rfl s0).trans ?_
    with_reducible rfl
  rotate_left
  · simp only [Act.put, List.setIfInBounds_toArray, List.set_cons_zero, List.set_cons_succ, i64_w, i32_w]
    rfl
  refine take_ (i := 5) (N := some 48) (v := ?_) (a' := ?_) #[true, true, true, true, true, true, false, false, false, false, false, false, false, false, false, false, false, false] rfl rfl (take_ofW HT_.out HW_.out (by kernel_rfl)) (fun _ _ _ h => h) (Or.inl ⟨by rfl, ?_⟩) hHeld ?_ ?_
  rotate_left
  · intro w' s0
    refine (loadN_run (T := 72) rfl rfl s0).trans ?_
    with_reducible rfl
  rotate_left
  · simp only [Act.put, List.setIfInBounds_toArray, List.set_cons_zero, List.set_cons_succ, i64_w, i32_w]
    rfl
  refine join_ (σ := Nat × Nat × Nat × Nat × Nat × Nat) 6 #[true, true, true, true, true, true, true, true, true, true, true, true, false, false, false, false, false, false] (fun s_ => [(2, ptrAt s_.1), (3, ptrAt s_.2.1), (4, ptrAt s_.2.2.1), (5, ptrAt s_.2.2.2.1), (6, ptrAt s_.2.2.2.2.1), (7, ptrAt s_.2.2.2.2.2)]) (fun s_ w' => Below w9.heap.size w9 w' ∧ (∀ g ∈ [s_.1, s_.2.1, s_.2.2.1, s_.2.2.2.1, s_.2.2.2.2.1, s_.2.2.2.2.2], w9.heap.size ≤ g ∧ w'.heap[g]? = some (.cells #[.int .u32 0, .int .u32 0, .int .u32 0, .slice none 0 0, .int .i64 0] 72 (0, 0))) ∧ [s_.1, s_.2.1, s_.2.2.1, s_.2.2.2.1, s_.2.2.2.2.1, s_.2.2.2.2.2].Nodup) ?_ ?_
  rotate_left
  · intro hCont
    exact allocs6 (f := 6) _ w9 #[.int .u32 0, .int .u32 0, .int .u32 0, .slice none 0 0, .int .i64 0] 72 (fun i h1 h2 => by
        have hc : i = 6 ∨ i = 7 ∨ i = 8 ∨ i = 9 ∨ i = 10 ∨ i = 11 := by omega
        rcases hc with rfl | rfl | rfl | rfl | rfl | rfl <;> refine ⟨_, rfl, rfl, rfl, fun a w => ?_⟩ <;> show (execOp a.eval _).run Try.prog w = .ok (.value (.pointer (some ⟨w.heap.size, 0, none⟩))) (World.alloc w (.cells #[.int .u32 0, .int .u32 0, .int .u32 0, .slice none 0 0, .int .i64 0] 72 (0, 0))) <;> first | (go_simp; done) | (go_simp; rfl))
      (fun i h1 h2 => by simp only [List.mem_cons, List.not_mem_nil, or_false]; omega)
      (by intro b6 b7 b8 b9 b10 b11 h; cases b6 <;> cases b7 <;> cases b8 <;> cases b9 <;> cases b10 <;> cases b11 <;> first | (exact absurd h (by decide)) | kernel_rfl)
      (fun w' hB => run_loadVar_row _ _ _ _ _ (0, 0) _ (blk_below H10.out hB) Try.underlying72 rfl (by kernel_rfl))
      (by first | rfl | (simp only [AA, putAll, VV, List.not_mem_nil, if_false, Act.put, List.setIfInBounds_toArray, List.set_cons_zero, List.set_cons_succ]; done))
      (fun q2 q3 q4 q5 q6 q7 w' h1 h2 h3 => hCont (q2, q3, q4, q5, q6, q7) w' ⟨h1, h2, h3⟩)
  rintro ⟨gx2, gx3, gx4, gx5, gx6, gx7⟩ w62 ⟨hb_, hg_, hn_⟩
  clear hHeld
  have hn2 := hn_
  simp only [List.nodup_cons, List.mem_cons, List.not_mem_nil, or_false, not_false_eq_true, List.nodup_nil, and_true] at hn2
  have H71 := Aside0.mk (blk_below H10.out hb_)
  have H72 := Aside0.mk (hg_ gx2 (by simp)).2
  have H73 := Aside0.mk (hg_ gx3 (by simp)).2
  have H74 := Aside0.mk (hg_ gx4 (by simp)).2
  have H75 := Aside0.mk (hg_ gx5 (by simp)).2
  have H76 := Aside0.mk (hg_ gx6 (by simp)).2
  have H77 := Aside0.mk (hg_ gx7 (by simp)).2
  have N13 : g1 ≠ gx2 := by have h1 := blk_lt H10.out; have h2 := (hg_ gx2 (by simp)).1; omega
  have N19 : g1 ≠ gx3 := by have h1 := blk_lt H10.out; have h2 := (hg_ gx3 (by simp)).1; omega
  have N20 : gx2 ≠ gx3 := by omega
  have N27 : g1 ≠ gx4 := by have h1 := blk_lt H10.out; have h2 := (hg_ gx4 (by simp)).1; omega
  have N28 : gx2 ≠ gx4 := by omega
  have N29 : gx3 ≠ gx4 := by omega
  have N37 : g1 ≠ gx5 := by have h1 := blk_lt H10.out; have h2 := (hg_ gx5 (by simp)).1; omega
  have N38 : gx2 ≠ gx5 := by omega
  have N39 : gx3 ≠ gx5 := by omega
  have N40 : gx4 ≠ gx5 := by omega
  have N49 : g1 ≠ gx6 := by have h1 := blk_lt H10.out; have h2 := (hg_ gx6 (by simp)).1; omega
  have N50 : gx2 ≠ gx6 := by omega
  have N51 : gx3 ≠ gx6 := by omega
  have N52 : gx4 ≠ gx6 := by omega
  have N53 : gx5 ≠ gx6 := by omega
  have N63 : g1 ≠ gx7 := by have h1 := blk_lt H10.out; have h2 := (hg_ gx7 (by simp)).1; omega
  have N64 : gx2 ≠ gx7 := by omega
  have N65 : gx3 ≠ gx7 := by omega
  have N66 : gx4 ≠ gx7 := by omega
  have N67 : gx5 ≠ gx7 := by omega
  have N68 : gx6 ≠ gx7 := by omega
  have G14 : w.heap.size ≤ gx2 := by have h1 := below_size B11.out; have h2 := (hg_ gx2 (by simp)).1; omega
  have G21 : w.heap.size ≤ gx3 := by have h1 := below_size B11.out; have h2 := (hg_ gx3 (by simp)).1; omega
  have G30 : w.heap.size ≤ gx4 := by have h1 := below_size B11.out; have h2 := (hg_ gx4 (by simp)).1; omega
  have G41 : w.heap.size ≤ gx5 := by have h1 := below_size B11.out; have h2 := (hg_ gx5 (by simp)).1; omega
  have G54 : w.heap.size ≤ gx6 := by have h1 := below_size B11.out; have h2 := (hg_ gx6 (by simp)).1; omega
  have G69 : w.heap.size ≤ gx7 := by have h1 := below_size B11.out; have h2 := (hg_ gx7 (by simp)).1; omega
  have B70 := Aside0.mk (below_step B11.out hb_)
  clear hb_ hg_ hn_ hn2 H10 B11
  have hHeld := trivial
  refine norm_ (a' := ?_) ?_ ?_
  rotate_left
  · simp only [putAll, ptrAt, Act.put, List.setIfInBounds_toArray, List.set_cons_zero, List.set_cons_succ]
    rfl
  refine one_ (i := 12) (N := none) #[true, true, true, true, true, true, true, true, true, true, true, true, true, false, false, false, false, false] rfl rfl (one_of HT_.out (by kernel_rfl)) (by decide) (fun K hK => ?_)
  refine skip_ (w1 := World.setCells w62 gx2 0 [.int .u32 0, .int .u32 4294967295, .int .u32 0, .slice none 0 0, .int .i64 4]) (by rfl) rfl (by exact storeN_run (T := 72) (vs := [.int .u32 0, .int .u32 4294967295, .int .u32 0, .slice none 0 0, .int .i64 4]) rfl rfl rfl (storeVar_blk H72.out 72 0 [.int .u32 0, .int .u32 4294967295, .int .u32 0, .slice none 0 0, .int .i64 4] (by kernel_rfl) rfl (by simp))) ?_
  have H79 := Aside0.mk (show (World.setCells w62 gx2 0 [.int .u32 0, .int .u32 4294967295, .int .u32 0, .slice none 0 0, .int .i64 4]).heap[gx2]? = some (.cells #[.int .u32 0, .int .u32 4294967295, .int .u32 0, .slice none 0 0, .int .i64 4] 72 (0, 0)) from blk_setCells [] [.int .u32 0, .int .u32 4294967295, .int .u32 0, .slice none 0 0, .int .i64 4] [.int .u32 0, .int .u32 0, .int .u32 0, .slice none 0 0, .int .i64 0] [] w62 rfl H72.out)
  have H80 := Aside0.mk (far_setCells N13 [.int .u32 0, .int .u32 4294967295, .int .u32 0, .slice none 0 0, .int .i64 4] 0 w62 H71.out)
  have H81 := Aside0.mk (far_setCells (Ne.symm N20) [.int .u32 0, .int .u32 4294967295, .int .u32 0, .slice none 0 0, .int .i64 4] 0 w62 H73.out)
  have H82 := Aside0.mk (far_setCells (Ne.symm N28) [.int .u32 0, .int .u32 4294967295, .int .u32 0, .slice none 0 0, .int .i64 4] 0 w62 H74.out)
  have H83 := Aside0.mk (far_setCells (Ne.symm N38) [.int .u32 0, .int .u32 4294967295, .int .u32 0, .slice none 0 0, .int .i64 4] 0 w62 H75.out)
  have H84 := Aside0.mk (far_setCells (Ne.symm N50) [.int .u32 0, .int .u32 4294967295, .int .u32 0, .slice none 0 0, .int .i64 4] 0 w62 H76.out)
  have H85 := Aside0.mk (far_setCells (Ne.symm N64) [.int .u32 0, .int .u32 4294967295, .int .u32 0, .slice none 0 0, .int .i64 4] 0 w62 H77.out)
  have B86 := Aside0.mk (below_setCells G14 [.int .u32 0, .int .u32 4294967295, .int .u32 0, .slice none 0 0, .int .i64 4] 0 w62 B70.out)
  clear H72 H71 H73 H74 H75 H76 H77 B70
  generalize World.setCells w62 gx2 0 [.int .u32 0, .int .u32 4294967295, .int .u32 0, .slice none 0 0, .int .i64 4] = w78 at H80 H79 H81 H82 H83 H84 H85 B86 ⊢
  refine hK.out _ _ ((run_loadVar_row _ _ _ _ _ (0, 0) _ H80.out Try.underlying72 rfl (by kernel_rfl))) (fun hHeld => ?_)
  clear hK K
  refine one_ (i := 13) (N := none) #[true, true, true, true, true, true, true, true, true, true, true, true, true, true, false, false, false, false] rfl rfl (one_of HT_.out (by kernel_rfl)) (by decide) (fun K hK => ?_)
  refine skip_ (w1 := World.setCells w78 gx3 0 [.int .u32 0, .int .u32 4294967295, .int .u32 0, .slice none 0 0, .int .i64 4]) (by rfl) rfl (by exact storeN_run (T := 72) (vs := [.int .u32 0, .int .u32 4294967295, .int .u32 0, .slice none 0 0, .int .i64 4]) rfl rfl rfl (storeVar_blk H81.out 72 0 [.int .u32 0, .int .u32 4294967295, .int .u32 0, .slice none 0 0, .int .i64 4] (by kernel_rfl) rfl (by simp))) ?_
  have H88 := Aside0.mk (show (World.setCells w78 gx3 0 [.int .u32 0, .int .u32 4294967295, .int .u32 0, .slice none 0 0, .int .i64 4]).heap[gx3]? = some (.cells #[.int .u32 0, .int .u32 4294967295, .int .u32 0, .slice none 0 0, .int .i64 4] 72 (0, 0)) from blk_setCells [] [.int .u32 0, .int .u32 4294967295, .int .u32 0, .slice none 0 0, .int .i64 4] [.int .u32 0, .int .u32 0, .int .u32 0, .slice none 0 0, .int .i64 0] [] w78 rfl H81.out)
  have H89 := Aside0.mk (far_setCells N19 [.int .u32 0, .int .u32 4294967295, .int .u32 0, .slice none 0 0, .int .i64 4] 0 w78 H80.out)
  have H90 := Aside0.mk (far_setCells N20 [.int .u32 0, .int .u32 4294967295, .int .u32 0, .slice none 0 0, .int .i64 4] 0 w78 H79.out)
  have H91 := Aside0.mk (far_setCells (Ne.symm N29) [.int .u32 0, .int .u32 4294967295, .int .u32 0, .slice none 0 0, .int .i64 4] 0 w78 H82.out)
  have H92 := Aside0.mk (far_setCells (Ne.symm N39) [.int .u32 0, .int .u32 4294967295, .int .u32 0, .slice none 0 0, .int .i64 4] 0 w78 H83.out)
  have H93 := Aside0.mk (far_setCells (Ne.symm N51) [.int .u32 0, .int .u32 4294967295, .int .u32 0, .slice none 0 0, .int .i64 4] 0 w78 H84.out)
  have H94 := Aside0.mk (far_setCells (Ne.symm N65) [.int .u32 0, .int .u32 4294967295, .int .u32 0, .slice none 0 0, .int .i64 4] 0 w78 H85.out)
  have B95 := Aside0.mk (below_setCells G21 [.int .u32 0, .int .u32 4294967295, .int .u32 0, .slice none 0 0, .int .i64 4] 0 w78 B86.out)
  clear H81 H80 H79 H82 H83 H84 H85 B86
  generalize World.setCells w78 gx3 0 [.int .u32 0, .int .u32 4294967295, .int .u32 0, .slice none 0 0, .int .i64 4] = w87 at H89 H90 H88 H91 H92 H93 H94 B95 ⊢
  refine hK.out _ _ ((run_loadVar_row _ _ _ _ _ (0, 0) _ H89.out Try.underlying72 rfl (by kernel_rfl))) (fun hHeld => ?_)
  clear hK K
  refine one_ (i := 14) (N := none) #[true, true, true, true, true, true, true, true, true, true, true, true, true, true, true, false, false, false] rfl rfl (one_of HT_.out (by kernel_rfl)) (by decide) (fun K hK => ?_)
  refine skip_ (w1 := World.setCells w87 gx4 0 [.int .u32 0, .int .u32 4294967295, .int .u32 0, .slice none 0 0, .int .i64 4]) (by rfl) rfl (by exact storeN_run (T := 72) (vs := [.int .u32 0, .int .u32 4294967295, .int .u32 0, .slice none 0 0, .int .i64 4]) rfl rfl rfl (storeVar_blk H91.out 72 0 [.int .u32 0, .int .u32 4294967295, .int .u32 0, .slice none 0 0, .int .i64 4] (by kernel_rfl) rfl (by simp))) ?_
  have H97 := Aside0.mk (show (World.setCells w87 gx4 0 [.int .u32 0, .int .u32 4294967295, .int .u32 0, .slice none 0 0, .int .i64 4]).heap[gx4]? = some (.cells #[.int .u32 0, .int .u32 4294967295, .int .u32 0, .slice none 0 0, .int .i64 4] 72 (0, 0)) from blk_setCells [] [.int .u32 0, .int .u32 4294967295, .int .u32 0, .slice none 0 0, .int .i64 4] [.int .u32 0, .int .u32 0, .int .u32 0, .slice none 0 0, .int .i64 0] [] w87 rfl H91.out)
  have H98 := Aside0.mk (far_setCells N27 [.int .u32 0, .int .u32 4294967295, .int .u32 0, .slice none 0 0, .int .i64 4] 0 w87 H89.out)
  have H99 := Aside0.mk (far_setCells N28 [.int .u32 0, .int .u32 4294967295, .int .u32 0, .slice none 0 0, .int .i64 4] 0 w87 H90.out)
  have H100 := Aside0.mk (far_setCells N29 [.int .u32 0, .int .u32 4294967295, .int .u32 0, .slice none 0 0, .int .i64 4] 0 w87 H88.out)
  have H101 := Aside0.mk (far_setCells (Ne.symm N40) [.int .u32 0, .int .u32 4294967295, .int .u32 0, .slice none 0 0, .int .i64 4] 0 w87 H92.out)
  have H102 := Aside0.mk (far_setCells (Ne.symm N52) [.int .u32 0, .int .u32 4294967295, .int .u32 0, .slice none 0 0, .int .i64 4] 0 w87 H93.out)
  have H103 := Aside0.mk (far_setCells (Ne.symm N66) [.int .u32 0, .int .u32 4294967295, .int .u32 0, .slice none 0 0, .int .i64 4] 0 w87 H94.out)
  have B104 := Aside0.mk (below_setCells G30 [.int .u32 0, .int .u32 4294967295, .int .u32 0, .slice none 0 0, .int .i64 4] 0 w87 B95.out)
  clear H91 H89 H90 H88 H92 H93 H94 B95
  generalize World.setCells w87 gx4 0 [.int .u32 0, .int .u32 4294967295, .int .u32 0, .slice none 0 0, .int .i64 4] = w96 at H98 H99 H100 H97 H101 H102 H103 B104 ⊢
  refine hK.out _ _ ((run_loadVar_row _ _ _ _ _ (0, 0) _ H98.out Try.underlying72 rfl (by kernel_rfl))) (fun hHeld => ?_)
  clear hK K
  refine one_ (i := 15) (N := none) #[true, true, true, true, true, true, true, true, true, true, true, true, true, true, true, true, false, false] rfl rfl (one_of HT_.out (by kernel_rfl)) (by decide) (fun K hK => ?_)
  refine skip_ (w1 := World.setCells w96 gx5 0 [.int .u32 0, .int .u32 4294967295, .int .u32 0, .slice none 0 0, .int .i64 4]) (by rfl) rfl (by exact storeN_run (T := 72) (vs := [.int .u32 0, .int .u32 4294967295, .int .u32 0, .slice none 0 0, .int .i64 4]) rfl rfl rfl (storeVar_blk H101.out 72 0 [.int .u32 0, .int .u32 4294967295, .int .u32 0, .slice none 0 0, .int .i64 4] (by kernel_rfl) rfl (by simp))) ?_
  have H106 := Aside0.mk (show (World.setCells w96 gx5 0 [.int .u32 0, .int .u32 4294967295, .int .u32 0, .slice none 0 0, .int .i64 4]).heap[gx5]? = some (.cells #[.int .u32 0, .int .u32 4294967295, .int .u32 0, .slice none 0 0, .int .i64 4] 72 (0, 0)) from blk_setCells [] [.int .u32 0, .int .u32 4294967295, .int .u32 0, .slice none 0 0, .int .i64 4] [.int .u32 0, .int .u32 0, .int .u32 0, .slice none 0 0, .int .i64 0] [] w96 rfl H101.out)
  have H107 := Aside0.mk (far_setCells N37 [.int .u32 0, .int .u32 4294967295, .int .u32 0, .slice none 0 0, .int .i64 4] 0 w96 H98.out)
  have H108 := Aside0.mk (far_setCells N38 [.int .u32 0, .int .u32 4294967295, .int .u32 0, .slice none 0 0, .int .i64 4] 0 w96 H99.out)
  have H109 := Aside0.mk (far_setCells N39 [.int .u32 0, .int .u32 4294967295, .int .u32 0, .slice none 0 0, .int .i64 4] 0 w96 H100.out)
  have H110 := Aside0.mk (far_setCells N40 [.int .u32 0, .int .u32 4294967295, .int .u32 0, .slice none 0 0, .int .i64 4] 0 w96 H97.out)
  have H111 := Aside0.mk (far_setCells (Ne.symm N53) [.int .u32 0, .int .u32 4294967295, .int .u32 0, .slice none 0 0, .int .i64 4] 0 w96 H102.out)
  have H112 := Aside0.mk (far_setCells (Ne.symm N67) [.int .u32 0, .int .u32 4294967295, .int .u32 0, .slice none 0 0, .int .i64 4] 0 w96 H103.out)
  have B113 := Aside0.mk (below_setCells G41 [.int .u32 0, .int .u32 4294967295, .int .u32 0, .slice none 0 0, .int .i64 4] 0 w96 B104.out)
  clear H101 H98 H99 H100 H97 H102 H103 B104
  generalize World.setCells w96 gx5 0 [.int .u32 0, .int .u32 4294967295, .int .u32 0, .slice none 0 0, .int .i64 4] = w105 at H107 H108 H109 H110 H106 H111 H112 B113 ⊢
  refine hK.out _ _ ((run_loadVar_row _ _ _ _ _ (0, 0) _ H107.out Try.underlying72 rfl (by kernel_rfl))) (fun hHeld => ?_)
  clear hK K
  refine one_ (i := 16) (N := none) #[true, true, true, true, true, true, true, true, true, true, true, true, true, true, true, true, true, false] rfl rfl (one_of HT_.out (by kernel_rfl)) (by decide) (fun K hK => ?_)
  refine skip_ (w1 := World.setCells w105 gx6 0 [.int .u32 0, .int .u32 4294967295, .int .u32 0, .slice none 0 0, .int .i64 4]) (by rfl) rfl (by exact storeN_run (T := 72) (vs := [.int .u32 0, .int .u32 4294967295, .int .u32 0, .slice none 0 0, .int .i64 4]) rfl rfl rfl (storeVar_blk H111.out 72 0 [.int .u32 0, .int .u32 4294967295, .int .u32 0, .slice none 0 0, .int .i64 4] (by kernel_rfl) rfl (by simp))) ?_
  have H115 := Aside0.mk (show (World.setCells w105 gx6 0 [.int .u32 0, .int .u32 4294967295, .int .u32 0, .slice none 0 0, .int .i64 4]).heap[gx6]? = some (.cells #[.int .u32 0, .int .u32 4294967295, .int .u32 0, .slice none 0 0, .int .i64 4] 72 (0, 0)) from blk_setCells [] [.int .u32 0, .int .u32 4294967295, .int .u32 0, .slice none 0 0, .int .i64 4] [.int .u32 0, .int .u32 0, .int .u32 0, .slice none 0 0, .int .i64 0] [] w105 rfl H111.out)
  have H116 := Aside0.mk (far_setCells N49 [.int .u32 0, .int .u32 4294967295, .int .u32 0, .slice none 0 0, .int .i64 4] 0 w105 H107.out)
  have H117 := Aside0.mk (far_setCells N50 [.int .u32 0, .int .u32 4294967295, .int .u32 0, .slice none 0 0, .int .i64 4] 0 w105 H108.out)
  have H118 := Aside0.mk (far_setCells N51 [.int .u32 0, .int .u32 4294967295, .int .u32 0, .slice none 0 0, .int .i64 4] 0 w105 H109.out)
  have H119 := Aside0.mk (far_setCells N52 [.int .u32 0, .int .u32 4294967295, .int .u32 0, .slice none 0 0, .int .i64 4] 0 w105 H110.out)
  have H120 := Aside0.mk (far_setCells N53 [.int .u32 0, .int .u32 4294967295, .int .u32 0, .slice none 0 0, .int .i64 4] 0 w105 H106.out)
  have H121 := Aside0.mk (far_setCells (Ne.symm N68) [.int .u32 0, .int .u32 4294967295, .int .u32 0, .slice none 0 0, .int .i64 4] 0 w105 H112.out)
  have B122 := Aside0.mk (below_setCells G54 [.int .u32 0, .int .u32 4294967295, .int .u32 0, .slice none 0 0, .int .i64 4] 0 w105 B113.out)
  clear H111 H107 H108 H109 H110 H106 H112 B113
  generalize World.setCells w105 gx6 0 [.int .u32 0, .int .u32 4294967295, .int .u32 0, .slice none 0 0, .int .i64 4] = w114 at H116 H117 H118 H119 H120 H115 H121 B122 ⊢
  refine hK.out _ _ ((run_loadVar_row _ _ _ _ _ (0, 0) _ H116.out Try.underlying72 rfl (by kernel_rfl))) (fun hHeld => ?_)
  clear hK K
  refine last_ (i := 17) (N := none) #[true, true, true, true, true, true, true, true, true, true, true, true, true, true, true, true, true, true] rfl rfl (one_of HT_.out (by kernel_rfl)) (by decide) (fun K hK => ?_)
  refine skip_ (w1 := World.setCells w114 gx7 0 [.int .u32 0, .int .u32 4294967295, .int .u32 0, .slice none 0 0, .int .i64 4]) (by rfl) rfl (by exact storeN_run (T := 72) (vs := [.int .u32 0, .int .u32 4294967295, .int .u32 0, .slice none 0 0, .int .i64 4]) rfl rfl rfl (storeVar_blk H121.out 72 0 [.int .u32 0, .int .u32 4294967295, .int .u32 0, .slice none 0 0, .int .i64 4] (by kernel_rfl) rfl (by simp))) ?_
  have H124 := Aside0.mk (show (World.setCells w114 gx7 0 [.int .u32 0, .int .u32 4294967295, .int .u32 0, .slice none 0 0, .int .i64 4]).heap[gx7]? = some (.cells #[.int .u32 0, .int .u32 4294967295, .int .u32 0, .slice none 0 0, .int .i64 4] 72 (0, 0)) from blk_setCells [] [.int .u32 0, .int .u32 4294967295, .int .u32 0, .slice none 0 0, .int .i64 4] [.int .u32 0, .int .u32 0, .int .u32 0, .slice none 0 0, .int .i64 0] [] w114 rfl H121.out)
  have H125 := Aside0.mk (far_setCells N63 [.int .u32 0, .int .u32 4294967295, .int .u32 0, .slice none 0 0, .int .i64 4] 0 w114 H116.out)
  have H126 := Aside0.mk (far_setCells N64 [.int .u32 0, .int .u32 4294967295, .int .u32 0, .slice none 0 0, .int .i64 4] 0 w114 H117.out)
  have H127 := Aside0.mk (far_setCells N65 [.int .u32 0, .int .u32 4294967295, .int .u32 0, .slice none 0 0, .int .i64 4] 0 w114 H118.out)
  have H128 := Aside0.mk (far_setCells N66 [.int .u32 0, .int .u32 4294967295, .int .u32 0, .slice none 0 0, .int .i64 4] 0 w114 H119.out)
  have H129 := Aside0.mk (far_setCells N67 [.int .u32 0, .int .u32 4294967295, .int .u32 0, .slice none 0 0, .int .i64 4] 0 w114 H120.out)
  have H130 := Aside0.mk (far_setCells N68 [.int .u32 0, .int .u32 4294967295, .int .u32 0, .slice none 0 0, .int .i64 4] 0 w114 H115.out)
  have B131 := Aside0.mk (below_setCells G69 [.int .u32 0, .int .u32 4294967295, .int .u32 0, .slice none 0 0, .int .i64 4] 0 w114 B122.out)
  clear H121 H116 H117 H118 H119 H120 H115 B122
  generalize World.setCells w114 gx7 0 [.int .u32 0, .int .u32 4294967295, .int .u32 0, .slice none 0 0, .int .i64 4] = w123 at H125 H126 H127 H128 H129 H130 H124 B131 ⊢
  refine hK.out _ _ ?_
  clear hK K
  refine done_ (done_of HT_.out (by kernel_rfl)) ?_
  go_wp2_with (first | ((with_reducible refine gate_store (t := 36) (p := _) rfl ?_); refine storeP_event rfl rfl rfl rfl rfl (storeVar_blk1 H126.out 36 0 (.int .u32 5) (by kernel_rfl) rfl (by simp) rfl) ?_; have H133 := Aside0.mk (show (World.setCells w123 gx2 0 [.int .u32 5]).heap[gx2]? = some (.cells #[.int .u32 5, .int .u32 4294967295, .int .u32 0, .slice none 0 0, .int .i64 4] 72 (0, 0)) from blk_setCells [.int .u32 4294967295, .int .u32 0, .slice none 0 0, .int .i64 4] [.int .u32 5] [.int .u32 0] [] w123 rfl H126.out); have H134 := Aside0.mk (far_setCells N13 [.int .u32 5] 0 w123 H125.out); have H135 := Aside0.mk (far_setCells (Ne.symm N20) [.int .u32 5] 0 w123 H127.out); have H136 := Aside0.mk (far_setCells (Ne.symm N28) [.int .u32 5] 0 w123 H128.out); have H137 := Aside0.mk (far_setCells (Ne.symm N38) [.int .u32 5] 0 w123 H129.out); have H138 := Aside0.mk (far_setCells (Ne.symm N50) [.int .u32 5] 0 w123 H130.out); have H139 := Aside0.mk (far_setCells (Ne.symm N64) [.int .u32 5] 0 w123 H124.out); have B140 := Aside0.mk (below_setCells G14 [.int .u32 5] 0 w123 B131.out); clear H126 H125 H127 H128 H129 H130 H124 B131; generalize World.setCells w123 gx2 0 [.int .u32 5] = w132 at H134 H133 H135 H136 H137 H138 H139 B140 ⊢) | ((with_reducible refine gate_store (t := 36) (p := _) rfl ?_); refine storeP_event rfl rfl rfl rfl rfl (storeVar_blk1 H133.out 36 2 (.int .u32 4) (by kernel_rfl) rfl (by simp) rfl) ?_; have H142 := Aside0.mk (show (World.setCells w132 gx2 2 [.int .u32 4]).heap[gx2]? = some (.cells #[.int .u32 5, .int .u32 4294967295, .int .u32 4, .slice none 0 0, .int .i64 4] 72 (0, 0)) from blk_setCells [.slice none 0 0, .int .i64 4] [.int .u32 4] [.int .u32 0] [.int .u32 5, .int .u32 4294967295] w132 rfl H133.out); have H143 := Aside0.mk (far_setCells N13 [.int .u32 4] 2 w132 H134.out); have H144 := Aside0.mk (far_setCells (Ne.symm N20) [.int .u32 4] 2 w132 H135.out); have H145 := Aside0.mk (far_setCells (Ne.symm N28) [.int .u32 4] 2 w132 H136.out); have H146 := Aside0.mk (far_setCells (Ne.symm N38) [.int .u32 4] 2 w132 H137.out); have H147 := Aside0.mk (far_setCells (Ne.symm N50) [.int .u32 4] 2 w132 H138.out); have H148 := Aside0.mk (far_setCells (Ne.symm N64) [.int .u32 4] 2 w132 H139.out); have B149 := Aside0.mk (below_setCells G14 [.int .u32 4] 2 w132 B140.out); clear H133 H134 H135 H136 H137 H138 H139 B140; generalize World.setCells w132 gx2 2 [.int .u32 4] = w141 at H143 H142 H144 H145 H146 H147 H148 B149 ⊢) | ((with_reducible refine gate_store (t := 36) (p := _) rfl ?_); refine storeP_event rfl rfl rfl rfl rfl (storeVar_blk1 H144.out 36 1 (.int .u32 16777216) (by kernel_rfl) rfl (by simp) rfl) ?_; have H151 := Aside0.mk (show (World.setCells w141 gx3 1 [.int .u32 16777216]).heap[gx3]? = some (.cells #[.int .u32 0, .int .u32 16777216, .int .u32 0, .slice none 0 0, .int .i64 4] 72 (0, 0)) from blk_setCells [.int .u32 0, .slice none 0 0, .int .i64 4] [.int .u32 16777216] [.int .u32 4294967295] [.int .u32 0] w141 rfl H144.out); have H152 := Aside0.mk (far_setCells N19 [.int .u32 16777216] 1 w141 H143.out); have H153 := Aside0.mk (far_setCells N20 [.int .u32 16777216] 1 w141 H142.out); have H154 := Aside0.mk (far_setCells (Ne.symm N29) [.int .u32 16777216] 1 w141 H145.out); have H155 := Aside0.mk (far_setCells (Ne.symm N39) [.int .u32 16777216] 1 w141 H146.out); have H156 := Aside0.mk (far_setCells (Ne.symm N51) [.int .u32 16777216] 1 w141 H147.out); have H157 := Aside0.mk (far_setCells (Ne.symm N65) [.int .u32 16777216] 1 w141 H148.out); have B158 := Aside0.mk (below_setCells G21 [.int .u32 16777216] 1 w141 B149.out); clear H144 H143 H142 H145 H146 H147 H148 B149; generalize World.setCells w141 gx3 1 [.int .u32 16777216] = w150 at H152 H153 H151 H154 H155 H156 H157 B158 ⊢) | ((with_reducible refine gate_store (t := 36) (p := _) rfl ?_); refine storeP_event rfl rfl rfl rfl rfl (storeVar_blk1 H151.out 36 2 (.int .u32 16777217) (by kernel_rfl) rfl (by simp) rfl) ?_; have H160 := Aside0.mk (show (World.setCells w150 gx3 2 [.int .u32 16777217]).heap[gx3]? = some (.cells #[.int .u32 0, .int .u32 16777216, .int .u32 16777217, .slice none 0 0, .int .i64 4] 72 (0, 0)) from blk_setCells [.slice none 0 0, .int .i64 4] [.int .u32 16777217] [.int .u32 0] [.int .u32 0, .int .u32 16777216] w150 rfl H151.out); have H161 := Aside0.mk (far_setCells N19 [.int .u32 16777217] 2 w150 H152.out); have H162 := Aside0.mk (far_setCells N20 [.int .u32 16777217] 2 w150 H153.out); have H163 := Aside0.mk (far_setCells (Ne.symm N29) [.int .u32 16777217] 2 w150 H154.out); have H164 := Aside0.mk (far_setCells (Ne.symm N39) [.int .u32 16777217] 2 w150 H155.out); have H165 := Aside0.mk (far_setCells (Ne.symm N51) [.int .u32 16777217] 2 w150 H156.out); have H166 := Aside0.mk (far_setCells (Ne.symm N65) [.int .u32 16777217] 2 w150 H157.out); have B167 := Aside0.mk (below_setCells G21 [.int .u32 16777217] 2 w150 B158.out); clear H151 H152 H153 H154 H155 H156 H157 B158; generalize World.setCells w150 gx3 2 [.int .u32 16777217] = w159 at H161 H162 H160 H163 H164 H165 H166 B167 ⊢) | ((with_reducible refine gate_store (t := 36) (p := _) rfl ?_); refine storeP_event rfl rfl rfl rfl rfl (storeVar_blk1 H163.out 36 1 (.int .u32 16777215) (by kernel_rfl) rfl (by simp) rfl) ?_; have H169 := Aside0.mk (show (World.setCells w159 gx4 1 [.int .u32 16777215]).heap[gx4]? = some (.cells #[.int .u32 0, .int .u32 16777215, .int .u32 0, .slice none 0 0, .int .i64 4] 72 (0, 0)) from blk_setCells [.int .u32 0, .slice none 0 0, .int .i64 4] [.int .u32 16777215] [.int .u32 4294967295] [.int .u32 0] w159 rfl H163.out); have H170 := Aside0.mk (far_setCells N27 [.int .u32 16777215] 1 w159 H161.out); have H171 := Aside0.mk (far_setCells N28 [.int .u32 16777215] 1 w159 H162.out); have H172 := Aside0.mk (far_setCells N29 [.int .u32 16777215] 1 w159 H160.out); have H173 := Aside0.mk (far_setCells (Ne.symm N40) [.int .u32 16777215] 1 w159 H164.out); have H174 := Aside0.mk (far_setCells (Ne.symm N52) [.int .u32 16777215] 1 w159 H165.out); have H175 := Aside0.mk (far_setCells (Ne.symm N66) [.int .u32 16777215] 1 w159 H166.out); have B176 := Aside0.mk (below_setCells G30 [.int .u32 16777215] 1 w159 B167.out); clear H163 H161 H162 H160 H164 H165 H166 B167; generalize World.setCells w159 gx4 1 [.int .u32 16777215] = w168 at H170 H171 H172 H169 H173 H174 H175 B176 ⊢) | ((with_reducible refine gate_store (t := 3) (p := _) rfl ?_); refine storeP_event rfl rfl rfl rfl rfl (storeVar_blk1 H173.out 3 4 (.int .i64 3) (by kernel_rfl) rfl (by simp) rfl) ?_; have H178 := Aside0.mk (show (World.setCells w168 gx5 4 [.int .i64 3]).heap[gx5]? = some (.cells #[.int .u32 0, .int .u32 4294967295, .int .u32 0, .slice none 0 0, .int .i64 3] 72 (0, 0)) from blk_setCells [] [.int .i64 3] [.int .i64 4] [.int .u32 0, .int .u32 4294967295, .int .u32 0, .slice none 0 0] w168 rfl H173.out); have H179 := Aside0.mk (far_setCells N37 [.int .i64 3] 4 w168 H170.out); have H180 := Aside0.mk (far_setCells N38 [.int .i64 3] 4 w168 H171.out); have H181 := Aside0.mk (far_setCells N39 [.int .i64 3] 4 w168 H172.out); have H182 := Aside0.mk (far_setCells N40 [.int .i64 3] 4 w168 H169.out); have H183 := Aside0.mk (far_setCells (Ne.symm N53) [.int .i64 3] 4 w168 H174.out); have H184 := Aside0.mk (far_setCells (Ne.symm N67) [.int .i64 3] 4 w168 H175.out); have B185 := Aside0.mk (below_setCells G41 [.int .i64 3] 4 w168 B176.out); clear H173 H170 H171 H172 H169 H174 H175 B176; generalize World.setCells w168 gx5 4 [.int .i64 3] = w177 at H179 H180 H181 H182 H178 H183 H184 B185 ⊢) | ((with_reducible refine gate_store (t := 3) (p := _) rfl ?_); refine storeP_event rfl rfl rfl rfl rfl (storeVar_blk1 H183.out 3 4 (.int .i64 1000001) (by kernel_rfl) rfl (by simp) rfl) ?_; have H187 := Aside0.mk (show (World.setCells w177 gx6 4 [.int .i64 1000001]).heap[gx6]? = some (.cells #[.int .u32 0, .int .u32 4294967295, .int .u32 0, .slice none 0 0, .int .i64 1000001] 72 (0, 0)) from blk_setCells [] [.int .i64 1000001] [.int .i64 4] [.int .u32 0, .int .u32 4294967295, .int .u32 0, .slice none 0 0] w177 rfl H183.out); have H188 := Aside0.mk (far_setCells N49 [.int .i64 1000001] 4 w177 H179.out); have H189 := Aside0.mk (far_setCells N50 [.int .i64 1000001] 4 w177 H180.out); have H190 := Aside0.mk (far_setCells N51 [.int .i64 1000001] 4 w177 H181.out); have H191 := Aside0.mk (far_setCells N52 [.int .i64 1000001] 4 w177 H182.out); have H192 := Aside0.mk (far_setCells N53 [.int .i64 1000001] 4 w177 H178.out); have H193 := Aside0.mk (far_setCells (Ne.symm N68) [.int .i64 1000001] 4 w177 H184.out); have B194 := Aside0.mk (below_setCells G54 [.int .i64 1000001] 4 w177 B185.out); clear H183 H179 H180 H181 H182 H178 H184 B185; generalize World.setCells w177 gx6 4 [.int .i64 1000001] = w186 at H188 H189 H190 H191 H192 H187 H193 B194 ⊢) | ((with_reducible refine gate_dst (N := 56) rfl ?_); refine Kd.R_make (Kd.int .u8) (w0 := w186) _ 5 rfl (N := 56) rfl 30 _ _ rfl 20001 rfl rfl Try.underlying30 (.int .u8 0) 1 info5p rfl (by decide) (by decide) (0 : Int) (ok := fun _ => True) (okp := fun _ => True) rfl (fun _ h => h) trivial (by decide) (by decide) (Below.refl _ _) (Nat.le_refl _) ?_; intro v_ w195 hO_ hb_ hg_ _; clear hg_; obtain ⟨gm, c_gm, rfl, hle_, hC_⟩ := row_formK (n := 20001) hO_ List.length_replicate (by decide); have B196 := Aside0.mk (below_step B194.out hb_); have H197 := Aside0.mk (blk_below H188.out hb_); have H198 := Aside0.mk (blk_below H189.out hb_); have H199 := Aside0.mk (blk_below H190.out hb_); have H200 := Aside0.mk (blk_below H191.out hb_); have H201 := Aside0.mk (blk_below H192.out hb_); have H202 := Aside0.mk (blk_below H187.out hb_); have H203 := Aside0.mk (blk_below H193.out hb_); have R204 := Aside0.mk (show Kd.C (Kd.int .u8) w195 (some ⟨gm, 0, none⟩) 20001 (List.replicate 20001 (0 : Int)) from hC_); have L205 := Aside0.mk hle_; have HRm := Aside0.mk hO_; clear hO_ hb_ hle_ hC_ B194 H188 H189 H190 H191 H192 H187 H193) | ((with_reducible refine gate_store (t := 30) (p := _) rfl ?_); refine storeP_event rfl rfl rfl rfl rfl (storeVar_blk1 H203.out 30 3 (.slice (some ⟨gm, 0, none⟩) 20001 c_gm) (by kernel_rfl) rfl (by simp) rfl) ?_; have H207 := Aside0.mk (show (World.setCells w195 gx7 3 [.slice (some ⟨gm, 0, none⟩) 20001 c_gm]).heap[gx7]? = some (.cells #[.int .u32 0, .int .u32 4294967295, .int .u32 0, .slice (some ⟨gm, 0, none⟩) 20001 c_gm, .int .i64 4] 72 (0, 0)) from blk_setCells [.int .i64 4] [.slice (some ⟨gm, 0, none⟩) 20001 c_gm] [.slice none 0 0] [.int .u32 0, .int .u32 4294967295, .int .u32 0] w195 rfl H203.out); have H208 := Aside0.mk (far_setCells N63 [.slice (some ⟨gm, 0, none⟩) 20001 c_gm] 3 w195 H197.out); have H209 := Aside0.mk (far_setCells N64 [.slice (some ⟨gm, 0, none⟩) 20001 c_gm] 3 w195 H198.out); have H210 := Aside0.mk (far_setCells N65 [.slice (some ⟨gm, 0, none⟩) 20001 c_gm] 3 w195 H199.out); have H211 := Aside0.mk (far_setCells N66 [.slice (some ⟨gm, 0, none⟩) 20001 c_gm] 3 w195 H200.out); have H212 := Aside0.mk (far_setCells N67 [.slice (some ⟨gm, 0, none⟩) 20001 c_gm] 3 w195 H201.out); have H213 := Aside0.mk (far_setCells N68 [.slice (some ⟨gm, 0, none⟩) 20001 c_gm] 3 w195 H202.out); have B214 := Aside0.mk (below_setCells G69 [.slice (some ⟨gm, 0, none⟩) 20001 c_gm] 3 w195 B196.out); have HRm2 := Aside0.mk (R_setCells (by decide) [.slice (some ⟨gm, 0, none⟩) 20001 c_gm] 3 w195 HRm.out H203.out); clear H203 H197 H198 H199 H200 H201 H202 B196; generalize World.setCells w195 gx7 3 [.slice (some ⟨gm, 0, none⟩) 20001 c_gm] = w206 at H208 H209 H210 H211 H212 H213 H207 B214 HRm2 ⊢; have hC2_ := (Kd.R_reads' HRm2.out).2.2; rw [List.length_replicate] at hC2_; have HCm := Aside0.mk hC2_; clear hC2_ HRm HRm2) | ((with_reducible refine gate_dst (N := 59) rfl ?_); refine loadG_event (T := 72) (by rfl) rfl rfl (run_loadVar_row _ _ _ _ _ (0, 0) _ H209.out Try.underlying72 rfl (by kernel_rfl)) ?_) | ((with_reducible refine gate_dst (N := 60) rfl ?_); refine loadG_event (T := 72) (by rfl) rfl rfl (run_loadVar_row _ _ _ _ _ (0, 0) _ H210.out Try.underlying72 rfl (by kernel_rfl)) ?_) | ((with_reducible refine gate_dst (N := 61) rfl ?_); refine loadG_event (T := 72) (by rfl) rfl rfl (run_loadVar_row _ _ _ _ _ (0, 0) _ H211.out Try.underlying72 rfl (by kernel_rfl)) ?_) | ((with_reducible refine gate_dst (N := 62) rfl ?_); refine loadG_event (T := 72) (by rfl) rfl rfl (run_loadVar_row _ _ _ _ _ (0, 0) _ H212.out Try.underlying72 rfl (by kernel_rfl)) ?_) | ((with_reducible refine gate_dst (N := 63) rfl ?_); refine loadG_event (T := 72) (by rfl) rfl rfl (run_loadVar_row _ _ _ _ _ (0, 0) _ H213.out Try.underlying72 rfl (by kernel_rfl)) ?_) | ((with_reducible refine gate_dst (N := 64) rfl ?_); refine loadG_event (T := 72) (by rfl) rfl rfl (run_loadVar_row _ _ _ _ _ (0, 0) _ H207.out Try.underlying72 rfl (by kernel_rfl)) ?_) | ((with_reducible refine gate_dst (N := 65) rfl ?_); refine lit_event ?hg (N := 65) ?hd (cs := #[.int .u32 0, .int .u32 0, .int .u32 0, .slice none 0 0, .int .i64 0, .int .u32 5, .int .u32 4294967295, .int .u32 4, .slice none 0 0, .int .i64 4, .int .u32 0, .int .u32 16777216, .int .u32 16777217, .slice none 0 0, .int .i64 4, .int .u32 0, .int .u32 16777215, .int .u32 0, .slice none 0 0, .int .i64 4, .int .u32 0, .int .u32 4294967295, .int .u32 0, .slice none 0 0, .int .i64 3, .int .u32 0, .int .u32 4294967295, .int .u32 0, .slice none 0 0, .int .i64 1000001, .int .u32 0, .int .u32 4294967295, .int .u32 0, .slice (some ⟨gm, 0, none⟩) 20001 c_gm, .int .i64 4]) (t := 72) (n := 7) ?hr ?_; (case hd => rfl); (case hg => rfl); (case hr => first | (go_simp; done) | (go_simp; rfl)); intro g215 hgg215 w216 hhg215 hbg215; have H235 := Aside0.mk hhg215; have N217 : g1 ≠ g215 := Nat.ne_of_lt (Nat.lt_of_lt_of_eq (blk_lt H208.out) hgg215.symm); have N218 : gx2 ≠ g215 := Nat.ne_of_lt (Nat.lt_of_lt_of_eq (blk_lt H209.out) hgg215.symm); have N219 : gx3 ≠ g215 := Nat.ne_of_lt (Nat.lt_of_lt_of_eq (blk_lt H210.out) hgg215.symm); have N220 : gx4 ≠ g215 := Nat.ne_of_lt (Nat.lt_of_lt_of_eq (blk_lt H211.out) hgg215.symm); have N221 : gx5 ≠ g215 := Nat.ne_of_lt (Nat.lt_of_lt_of_eq (blk_lt H212.out) hgg215.symm); have N222 : gx6 ≠ g215 := Nat.ne_of_lt (Nat.lt_of_lt_of_eq (blk_lt H213.out) hgg215.symm); have N223 : gx7 ≠ g215 := Nat.ne_of_lt (Nat.lt_of_lt_of_eq (blk_lt H207.out) hgg215.symm); have G224 : w.heap.size ≤ g215 := Nat.le_trans B214.out.size (Nat.le_of_eq hgg215.symm); have G225 : w206.heap.size ≤ g215 := Nat.le_of_eq hgg215.symm; have B226 := Aside0.mk (below_step B214.out hbg215); have B227 := Aside0.mk (hbg215); have H228 := Aside0.mk (blk_below H208.out hbg215); have H229 := Aside0.mk (blk_below H209.out hbg215); have H230 := Aside0.mk (blk_below H210.out hbg215); have H231 := Aside0.mk (blk_below H211.out hbg215); have H232 := Aside0.mk (blk_below H212.out hbg215); have H233 := Aside0.mk (blk_below H213.out hbg215); have H234 := Aside0.mk (blk_below H207.out hbg215); clear hgg215 hhg215 hbg215 B214 H208 H209 H210 H211 H212 H213 H207))
  go_loopg [9] 7 (fun m v9 w1 => ∃ (k : Nat), v9 = .int .i64 (k : Int) ∧ Aside0 (k + m = 7) ∧ Aside0 (w1.heap[g215]? = some (.cells #[.int .u32 0, .int .u32 0, .int .u32 0, .slice none 0 0, .int .i64 0, .int .u32 5, .int .u32 4294967295, .int .u32 4, .slice none 0 0, .int .i64 4, .int .u32 0, .int .u32 16777216, .int .u32 16777217, .slice none 0 0, .int .i64 4, .int .u32 0, .int .u32 16777215, .int .u32 0, .slice none 0 0, .int .i64 4, .int .u32 0, .int .u32 4294967295, .int .u32 0, .slice none 0 0, .int .i64 3, .int .u32 0, .int .u32 4294967295, .int .u32 0, .slice none 0 0, .int .i64 1000001, .int .u32 0, .int .u32 4294967295, .int .u32 0, .slice (some ⟨gm, 0, none⟩) 20001 c_gm, .int .i64 4] 72 (0, 0))) ∧ Aside0 (w1.heap[g1]? = some (.cells #[.int .u32 0, .int .u32 4294967295, .int .u32 0, .slice none 0 0, .int .i64 4] 72 (0, 0))) ∧ Aside0 (g1 ≠ g215) ∧ Aside0 (Kd.C (Kd.int .u8) w1 (some ⟨gm, 0, none⟩) 20001 (List.replicate 20001 (0 : Int))) ∧ Aside0 (Below w.heap.size w w1))
  case atStart => exact ⟨0, rfl, ⟨by omega⟩, H235, H228, ⟨N217⟩, ⟨(Kd.C_below HCm.out B227.out)⟩, B226⟩
  case round =>
    clear H228 H229 H230 H231 H232 H233 H234 H235 B226 B227
    obtain ⟨k, rfl, HK, HB, HB1, HN, HC, BB⟩ := hrel
    have hc : k = 0 ∨ k = 1 ∨ k = 2 ∨ k = 3 ∨ k = 4 ∨ k = 5 ∨ k = 6 ∨ k = 7 := by have := HK.out; omega
    rcases hc with rfl | rfl | rfl | rfl | rfl | rfl | rfl | rfl
    · obtain ⟨go, rfl⟩ : ∃ j, gk = j + 1 := ⟨gk - 1, by have := HK.out; omega⟩
      go_wp2_with (first | ((with_reducible refine gate_dst (N := 76) rfl ?_); refine loadG_event (T := 72) (by rfl) rfl rfl (loadVar_sub (pre := []) (vs := [.int .u32 0, .int .u32 0, .int .u32 0, .slice none 0 0, .int .i64 0]) (post := [.int .u32 5, .int .u32 4294967295, .int .u32 4, .slice none 0 0, .int .i64 4, .int .u32 0, .int .u32 16777216, .int .u32 16777217, .slice none 0 0, .int .i64 4, .int .u32 0, .int .u32 16777215, .int .u32 0, .slice none 0 0, .int .i64 4, .int .u32 0, .int .u32 4294967295, .int .u32 0, .slice none 0 0, .int .i64 3, .int .u32 0, .int .u32 4294967295, .int .u32 0, .slice none 0 0, .int .i64 1000001, .int .u32 0, .int .u32 4294967295, .int .u32 0, .slice (some ⟨gm, 0, none⟩) 20001 c_gm, .int .i64 4]) HB.out 72 (by kernel_rfl) (by kernel_rfl)) ?_))
      refine (Hg0.out wr).mono ?_
      rintro e w101 ⟨v0_, rfl, hR_, hb_⟩
      have B102 := Aside0.mk (below_step BB.out hb_)
      have B103 := Aside0.mk (hb_)
      have H104 := Aside0.mk (blk_below HB.out hb_)
      have H105 := Aside0.mk (blk_below HB1.out hb_)
      clear hb_ BB HB HB1
      obtain ⟨rq106, cq106, rfl, hle_, hC_⟩ := Kd.R_reads hR_
      clear hle_ hC_ hR_
      rw [show ([] : List Int).length = 0 from rfl]
      go_wp2_with (first | ((with_reducible refine gate_dst (N := 10) rfl ?_); refine box_event ?hg (N := 10) ?hd (cs := #[.int .u32 0, .int .u32 0, .int .u32 0, .slice none 0 0, .int .i64 0]) (t := 72) ?hr ?_; (case hd => rfl); (case hg => rfl); (case hr => first | (go_simp; done) | (go_simp; rfl)); intro g107 hgg107 w108 hhg107 hbg107; have H117 := Aside0.mk hhg107; have N109 : g215 ≠ g107 := Nat.ne_of_lt (Nat.lt_of_lt_of_eq (blk_lt H104.out) hgg107.symm); have N110 : g1 ≠ g107 := Nat.ne_of_lt (Nat.lt_of_lt_of_eq (blk_lt H105.out) hgg107.symm); have G111 : w.heap.size ≤ g107 := Nat.le_trans B102.out.size (Nat.le_of_eq hgg107.symm); have G112 : wr.heap.size ≤ g107 := Nat.le_trans B103.out.size (Nat.le_of_eq hgg107.symm); have B113 := Aside0.mk (below_step B102.out hbg107); have B114 := Aside0.mk (below_step B103.out hbg107); have H115 := Aside0.mk (blk_below H104.out hbg107); have H116 := Aside0.mk (blk_below H105.out hbg107); clear hgg107 hhg107 hbg107 B102 B103 H104 H105) | ((with_reducible refine gate_store (t := 72) (p := _) rfl ?_); refine storeN_event (T := 72) rfl rfl rfl rfl rfl (storeVar_blk H117.out 72 0 [.int .u32 0, .int .u32 0, .int .u32 0, .slice rq106 0 cq106, .int .i64 0] (by kernel_rfl) rfl (by simp)) ?_; have H119 := Aside0.mk (show (World.setCells w108 g107 0 [.int .u32 0, .int .u32 0, .int .u32 0, .slice rq106 0 cq106, .int .i64 0]).heap[g107]? = some (.cells #[.int .u32 0, .int .u32 0, .int .u32 0, .slice rq106 0 cq106, .int .i64 0] 72 (0, 0)) from blk_setCells [] [.int .u32 0, .int .u32 0, .int .u32 0, .slice rq106 0 cq106, .int .i64 0] [.int .u32 0, .int .u32 0, .int .u32 0, .slice none 0 0, .int .i64 0] [] w108 rfl H117.out); have H120 := Aside0.mk (far_setCells N109 [.int .u32 0, .int .u32 0, .int .u32 0, .slice rq106 0 cq106, .int .i64 0] 0 w108 H115.out); have H121 := Aside0.mk (far_setCells N110 [.int .u32 0, .int .u32 0, .int .u32 0, .slice rq106 0 cq106, .int .i64 0] 0 w108 H116.out); have B122 := Aside0.mk (below_setCells G111 [.int .u32 0, .int .u32 0, .int .u32 0, .slice rq106 0 cq106, .int .i64 0] 0 w108 B113.out); have B123 := Aside0.mk (below_setCells G112 [.int .u32 0, .int .u32 0, .int .u32 0, .slice rq106 0 cq106, .int .i64 0] 0 w108 B114.out); clear H117 H115 H116 B113 B114; generalize World.setCells w108 g107 0 [.int .u32 0, .int .u32 0, .int .u32 0, .slice rq106 0 cq106, .int .i64 0] = w118 at H120 H121 H119 B122 B123 ⊢) | ((with_reducible refine gate_dst (N := 85) rfl ?_); refine loadG_event (T := 72) (by rfl) rfl rfl (loadVar_sub (pre := []) (vs := [.int .u32 0, .int .u32 0, .int .u32 0, .slice none 0 0, .int .i64 0]) (post := [.int .u32 5, .int .u32 4294967295, .int .u32 4, .slice none 0 0, .int .i64 4, .int .u32 0, .int .u32 16777216, .int .u32 16777217, .slice none 0 0, .int .i64 4, .int .u32 0, .int .u32 16777215, .int .u32 0, .slice none 0 0, .int .i64 4, .int .u32 0, .int .u32 4294967295, .int .u32 0, .slice none 0 0, .int .i64 3, .int .u32 0, .int .u32 4294967295, .int .u32 0, .slice none 0 0, .int .i64 1000001, .int .u32 0, .int .u32 4294967295, .int .u32 0, .slice (some ⟨gm, 0, none⟩) 20001 c_gm, .int .i64 4]) H120.out 72 (by kernel_rfl) (by kernel_rfl)) ?_))
      refine (Ho0.out w118).mono ?_
      rintro e w124 ⟨rfl, hb_⟩
      have B125 := Aside0.mk (below_step B122.out hb_)
      have B126 := Aside0.mk (below_step B123.out hb_)
      have H127 := Aside0.mk (blk_below H120.out hb_)
      have H128 := Aside0.mk (blk_below H121.out hb_)
      clear hb_ B122 B123 H120 H121
      go_wp2_with (first | ((with_reducible refine gate_dst (N := 92) rfl ?_); refine loadG_event (T := 72) (by rfl) rfl rfl (loadVar_sub (pre := []) (vs := [.int .u32 0, .int .u32 0, .int .u32 0, .slice none 0 0, .int .i64 0]) (post := [.int .u32 5, .int .u32 4294967295, .int .u32 4, .slice none 0 0, .int .i64 4, .int .u32 0, .int .u32 16777216, .int .u32 16777217, .slice none 0 0, .int .i64 4, .int .u32 0, .int .u32 16777215, .int .u32 0, .slice none 0 0, .int .i64 4, .int .u32 0, .int .u32 4294967295, .int .u32 0, .slice none 0 0, .int .i64 3, .int .u32 0, .int .u32 4294967295, .int .u32 0, .slice none 0 0, .int .i64 1000001, .int .u32 0, .int .u32 4294967295, .int .u32 0, .slice (some ⟨gm, 0, none⟩) 20001 c_gm, .int .i64 4]) H127.out 72 (by kernel_rfl) (by kernel_rfl)) ?_))
      refine (Hc0.out w124).mono ?_
      rintro e w129 ⟨rfl, hb_⟩
      have B130 := Aside0.mk (below_step B125.out hb_)
      have B131 := Aside0.mk (below_step B126.out hb_)
      have H132 := Aside0.mk (blk_below H127.out hb_)
      have H133 := Aside0.mk (blk_below H128.out hb_)
      clear hb_ B125 B126 H127 H128
      go_wp2_with fail
      go_roundg go
      case measure => have := HK.out; omega
      case rel => exact ⟨1, rfl, ⟨by have := HK.out; omega⟩, H132, H133, HN, ⟨(Kd.C_below HC.out B131.out)⟩, B130⟩
    · obtain ⟨go, rfl⟩ : ∃ j, gk = j + 1 := ⟨gk - 1, by have := HK.out; omega⟩
      go_wp2_with (first | ((with_reducible refine gate_dst (N := 76) rfl ?_); refine loadG_event (T := 72) (by rfl) rfl rfl (loadVar_sub (pre := [.int .u32 0, .int .u32 0, .int .u32 0, .slice none 0 0, .int .i64 0]) (vs := [.int .u32 5, .int .u32 4294967295, .int .u32 4, .slice none 0 0, .int .i64 4]) (post := [.int .u32 0, .int .u32 16777216, .int .u32 16777217, .slice none 0 0, .int .i64 4, .int .u32 0, .int .u32 16777215, .int .u32 0, .slice none 0 0, .int .i64 4, .int .u32 0, .int .u32 4294967295, .int .u32 0, .slice none 0 0, .int .i64 3, .int .u32 0, .int .u32 4294967295, .int .u32 0, .slice none 0 0, .int .i64 1000001, .int .u32 0, .int .u32 4294967295, .int .u32 0, .slice (some ⟨gm, 0, none⟩) 20001 c_gm, .int .i64 4]) HB.out 72 (by kernel_rfl) (by kernel_rfl)) ?_))
      refine (Hg1.out wr).mono ?_
      rintro e w201 ⟨v0_, rfl, hR_, hb_⟩
      have B202 := Aside0.mk (below_step BB.out hb_)
      have B203 := Aside0.mk (hb_)
      have H204 := Aside0.mk (blk_below HB.out hb_)
      have H205 := Aside0.mk (blk_below HB1.out hb_)
      clear hb_ BB HB HB1
      obtain ⟨rq206, cq206, rfl, hle_, hC_⟩ := Kd.R_reads hR_
      clear hle_ hC_ hR_
      rw [show ([] : List Int).length = 0 from rfl]
      go_wp2_with (first | ((with_reducible refine gate_dst (N := 10) rfl ?_); refine box_event ?hg (N := 10) ?hd (cs := #[.int .u32 0, .int .u32 0, .int .u32 0, .slice none 0 0, .int .i64 0]) (t := 72) ?hr ?_; (case hd => rfl); (case hg => rfl); (case hr => first | (go_simp; done) | (go_simp; rfl)); intro g207 hgg207 w208 hhg207 hbg207; have H217 := Aside0.mk hhg207; have N209 : g215 ≠ g207 := Nat.ne_of_lt (Nat.lt_of_lt_of_eq (blk_lt H204.out) hgg207.symm); have N210 : g1 ≠ g207 := Nat.ne_of_lt (Nat.lt_of_lt_of_eq (blk_lt H205.out) hgg207.symm); have G211 : w.heap.size ≤ g207 := Nat.le_trans B202.out.size (Nat.le_of_eq hgg207.symm); have G212 : wr.heap.size ≤ g207 := Nat.le_trans B203.out.size (Nat.le_of_eq hgg207.symm); have B213 := Aside0.mk (below_step B202.out hbg207); have B214 := Aside0.mk (below_step B203.out hbg207); have H215 := Aside0.mk (blk_below H204.out hbg207); have H216 := Aside0.mk (blk_below H205.out hbg207); clear hgg207 hhg207 hbg207 B202 B203 H204 H205) | ((with_reducible refine gate_store (t := 72) (p := _) rfl ?_); refine storeN_event (T := 72) rfl rfl rfl rfl rfl (storeVar_blk H217.out 72 0 [.int .u32 0, .int .u32 0, .int .u32 0, .slice rq206 0 cq206, .int .i64 0] (by kernel_rfl) rfl (by simp)) ?_; have H219 := Aside0.mk (show (World.setCells w208 g207 0 [.int .u32 0, .int .u32 0, .int .u32 0, .slice rq206 0 cq206, .int .i64 0]).heap[g207]? = some (.cells #[.int .u32 0, .int .u32 0, .int .u32 0, .slice rq206 0 cq206, .int .i64 0] 72 (0, 0)) from blk_setCells [] [.int .u32 0, .int .u32 0, .int .u32 0, .slice rq206 0 cq206, .int .i64 0] [.int .u32 0, .int .u32 0, .int .u32 0, .slice none 0 0, .int .i64 0] [] w208 rfl H217.out); have H220 := Aside0.mk (far_setCells N209 [.int .u32 0, .int .u32 0, .int .u32 0, .slice rq206 0 cq206, .int .i64 0] 0 w208 H215.out); have H221 := Aside0.mk (far_setCells N210 [.int .u32 0, .int .u32 0, .int .u32 0, .slice rq206 0 cq206, .int .i64 0] 0 w208 H216.out); have B222 := Aside0.mk (below_setCells G211 [.int .u32 0, .int .u32 0, .int .u32 0, .slice rq206 0 cq206, .int .i64 0] 0 w208 B213.out); have B223 := Aside0.mk (below_setCells G212 [.int .u32 0, .int .u32 0, .int .u32 0, .slice rq206 0 cq206, .int .i64 0] 0 w208 B214.out); clear H217 H215 H216 B213 B214; generalize World.setCells w208 g207 0 [.int .u32 0, .int .u32 0, .int .u32 0, .slice rq206 0 cq206, .int .i64 0] = w218 at H220 H221 H219 B222 B223 ⊢) | ((with_reducible refine gate_dst (N := 85) rfl ?_); refine loadG_event (T := 72) (by rfl) rfl rfl (loadVar_sub (pre := [.int .u32 0, .int .u32 0, .int .u32 0, .slice none 0 0, .int .i64 0]) (vs := [.int .u32 5, .int .u32 4294967295, .int .u32 4, .slice none 0 0, .int .i64 4]) (post := [.int .u32 0, .int .u32 16777216, .int .u32 16777217, .slice none 0 0, .int .i64 4, .int .u32 0, .int .u32 16777215, .int .u32 0, .slice none 0 0, .int .i64 4, .int .u32 0, .int .u32 4294967295, .int .u32 0, .slice none 0 0, .int .i64 3, .int .u32 0, .int .u32 4294967295, .int .u32 0, .slice none 0 0, .int .i64 1000001, .int .u32 0, .int .u32 4294967295, .int .u32 0, .slice (some ⟨gm, 0, none⟩) 20001 c_gm, .int .i64 4]) H220.out 72 (by kernel_rfl) (by kernel_rfl)) ?_))
      refine (Ho1.out w218).mono ?_
      rintro e w224 ⟨rfl, hb_⟩
      have B225 := Aside0.mk (below_step B222.out hb_)
      have B226 := Aside0.mk (below_step B223.out hb_)
      have H227 := Aside0.mk (blk_below H220.out hb_)
      have H228 := Aside0.mk (blk_below H221.out hb_)
      clear hb_ B222 B223 H220 H221
      go_wp2_with (first | ((with_reducible refine gate_dst (N := 92) rfl ?_); refine loadG_event (T := 72) (by rfl) rfl rfl (loadVar_sub (pre := [.int .u32 0, .int .u32 0, .int .u32 0, .slice none 0 0, .int .i64 0]) (vs := [.int .u32 5, .int .u32 4294967295, .int .u32 4, .slice none 0 0, .int .i64 4]) (post := [.int .u32 0, .int .u32 16777216, .int .u32 16777217, .slice none 0 0, .int .i64 4, .int .u32 0, .int .u32 16777215, .int .u32 0, .slice none 0 0, .int .i64 4, .int .u32 0, .int .u32 4294967295, .int .u32 0, .slice none 0 0, .int .i64 3, .int .u32 0, .int .u32 4294967295, .int .u32 0, .slice none 0 0, .int .i64 1000001, .int .u32 0, .int .u32 4294967295, .int .u32 0, .slice (some ⟨gm, 0, none⟩) 20001 c_gm, .int .i64 4]) H227.out 72 (by kernel_rfl) (by kernel_rfl)) ?_))
      refine (Hc1.out w224).mono ?_
      rintro e w229 ⟨rfl, hb_⟩
      have B230 := Aside0.mk (below_step B225.out hb_)
      have B231 := Aside0.mk (below_step B226.out hb_)
      have H232 := Aside0.mk (blk_below H227.out hb_)
      have H233 := Aside0.mk (blk_below H228.out hb_)
      clear hb_ B225 B226 H227 H228
      go_wp2_with fail
      go_roundg go
      case measure => have := HK.out; omega
      case rel => exact ⟨2, rfl, ⟨by have := HK.out; omega⟩, H232, H233, HN, ⟨(Kd.C_below HC.out B231.out)⟩, B230⟩
    · obtain ⟨go, rfl⟩ : ∃ j, gk = j + 1 := ⟨gk - 1, by have := HK.out; omega⟩
      go_wp2_with (first | ((with_reducible refine gate_dst (N := 76) rfl ?_); refine loadG_event (T := 72) (by rfl) rfl rfl (loadVar_sub (pre := [.int .u32 0, .int .u32 0, .int .u32 0, .slice none 0 0, .int .i64 0, .int .u32 5, .int .u32 4294967295, .int .u32 4, .slice none 0 0, .int .i64 4]) (vs := [.int .u32 0, .int .u32 16777216, .int .u32 16777217, .slice none 0 0, .int .i64 4]) (post := [.int .u32 0, .int .u32 16777215, .int .u32 0, .slice none 0 0, .int .i64 4, .int .u32 0, .int .u32 4294967295, .int .u32 0, .slice none 0 0, .int .i64 3, .int .u32 0, .int .u32 4294967295, .int .u32 0, .slice none 0 0, .int .i64 1000001, .int .u32 0, .int .u32 4294967295, .int .u32 0, .slice (some ⟨gm, 0, none⟩) 20001 c_gm, .int .i64 4]) HB.out 72 (by kernel_rfl) (by kernel_rfl)) ?_))
      refine (Hg2.out wr).mono ?_
      rintro e w301 ⟨v0_, rfl, hR_, hb_⟩
      have B302 := Aside0.mk (below_step BB.out hb_)
      have B303 := Aside0.mk (hb_)
      have H304 := Aside0.mk (blk_below HB.out hb_)
      have H305 := Aside0.mk (blk_below HB1.out hb_)
      clear hb_ BB HB HB1
      obtain ⟨rq306, cq306, rfl, hle_, hC_⟩ := Kd.R_reads hR_
      clear hle_ hC_ hR_
      rw [show ([] : List Int).length = 0 from rfl]
      go_wp2_with (first | ((with_reducible refine gate_dst (N := 10) rfl ?_); refine box_event ?hg (N := 10) ?hd (cs := #[.int .u32 0, .int .u32 0, .int .u32 0, .slice none 0 0, .int .i64 0]) (t := 72) ?hr ?_; (case hd => rfl); (case hg => rfl); (case hr => first | (go_simp; done) | (go_simp; rfl)); intro g307 hgg307 w308 hhg307 hbg307; have H317 := Aside0.mk hhg307; have N309 : g215 ≠ g307 := Nat.ne_of_lt (Nat.lt_of_lt_of_eq (blk_lt H304.out) hgg307.symm); have N310 : g1 ≠ g307 := Nat.ne_of_lt (Nat.lt_of_lt_of_eq (blk_lt H305.out) hgg307.symm); have G311 : w.heap.size ≤ g307 := Nat.le_trans B302.out.size (Nat.le_of_eq hgg307.symm); have G312 : wr.heap.size ≤ g307 := Nat.le_trans B303.out.size (Nat.le_of_eq hgg307.symm); have B313 := Aside0.mk (below_step B302.out hbg307); have B314 := Aside0.mk (below_step B303.out hbg307); have H315 := Aside0.mk (blk_below H304.out hbg307); have H316 := Aside0.mk (blk_below H305.out hbg307); clear hgg307 hhg307 hbg307 B302 B303 H304 H305) | ((with_reducible refine gate_store (t := 72) (p := _) rfl ?_); refine storeN_event (T := 72) rfl rfl rfl rfl rfl (storeVar_blk H317.out 72 0 [.int .u32 0, .int .u32 0, .int .u32 0, .slice rq306 0 cq306, .int .i64 0] (by kernel_rfl) rfl (by simp)) ?_; have H319 := Aside0.mk (show (World.setCells w308 g307 0 [.int .u32 0, .int .u32 0, .int .u32 0, .slice rq306 0 cq306, .int .i64 0]).heap[g307]? = some (.cells #[.int .u32 0, .int .u32 0, .int .u32 0, .slice rq306 0 cq306, .int .i64 0] 72 (0, 0)) from blk_setCells [] [.int .u32 0, .int .u32 0, .int .u32 0, .slice rq306 0 cq306, .int .i64 0] [.int .u32 0, .int .u32 0, .int .u32 0, .slice none 0 0, .int .i64 0] [] w308 rfl H317.out); have H320 := Aside0.mk (far_setCells N309 [.int .u32 0, .int .u32 0, .int .u32 0, .slice rq306 0 cq306, .int .i64 0] 0 w308 H315.out); have H321 := Aside0.mk (far_setCells N310 [.int .u32 0, .int .u32 0, .int .u32 0, .slice rq306 0 cq306, .int .i64 0] 0 w308 H316.out); have B322 := Aside0.mk (below_setCells G311 [.int .u32 0, .int .u32 0, .int .u32 0, .slice rq306 0 cq306, .int .i64 0] 0 w308 B313.out); have B323 := Aside0.mk (below_setCells G312 [.int .u32 0, .int .u32 0, .int .u32 0, .slice rq306 0 cq306, .int .i64 0] 0 w308 B314.out); clear H317 H315 H316 B313 B314; generalize World.setCells w308 g307 0 [.int .u32 0, .int .u32 0, .int .u32 0, .slice rq306 0 cq306, .int .i64 0] = w318 at H320 H321 H319 B322 B323 ⊢) | ((with_reducible refine gate_dst (N := 85) rfl ?_); refine loadG_event (T := 72) (by rfl) rfl rfl (loadVar_sub (pre := [.int .u32 0, .int .u32 0, .int .u32 0, .slice none 0 0, .int .i64 0, .int .u32 5, .int .u32 4294967295, .int .u32 4, .slice none 0 0, .int .i64 4]) (vs := [.int .u32 0, .int .u32 16777216, .int .u32 16777217, .slice none 0 0, .int .i64 4]) (post := [.int .u32 0, .int .u32 16777215, .int .u32 0, .slice none 0 0, .int .i64 4, .int .u32 0, .int .u32 4294967295, .int .u32 0, .slice none 0 0, .int .i64 3, .int .u32 0, .int .u32 4294967295, .int .u32 0, .slice none 0 0, .int .i64 1000001, .int .u32 0, .int .u32 4294967295, .int .u32 0, .slice (some ⟨gm, 0, none⟩) 20001 c_gm, .int .i64 4]) H320.out 72 (by kernel_rfl) (by kernel_rfl)) ?_))
      refine (Ho2.out w318).mono ?_
      rintro e w324 ⟨rfl, hb_⟩
      have B325 := Aside0.mk (below_step B322.out hb_)
      have B326 := Aside0.mk (below_step B323.out hb_)
      have H327 := Aside0.mk (blk_below H320.out hb_)
      have H328 := Aside0.mk (blk_below H321.out hb_)
      clear hb_ B322 B323 H320 H321
      go_wp2_with (first | ((with_reducible refine gate_dst (N := 92) rfl ?_); refine loadG_event (T := 72) (by rfl) rfl rfl (loadVar_sub (pre := [.int .u32 0, .int .u32 0, .int .u32 0, .slice none 0 0, .int .i64 0, .int .u32 5, .int .u32 4294967295, .int .u32 4, .slice none 0 0, .int .i64 4]) (vs := [.int .u32 0, .int .u32 16777216, .int .u32 16777217, .slice none 0 0, .int .i64 4]) (post := [.int .u32 0, .int .u32 16777215, .int .u32 0, .slice none 0 0, .int .i64 4, .int .u32 0, .int .u32 4294967295, .int .u32 0, .slice none 0 0, .int .i64 3, .int .u32 0, .int .u32 4294967295, .int .u32 0, .slice none 0 0, .int .i64 1000001, .int .u32 0, .int .u32 4294967295, .int .u32 0, .slice (some ⟨gm, 0, none⟩) 20001 c_gm, .int .i64 4]) H327.out 72 (by kernel_rfl) (by kernel_rfl)) ?_))
      refine (Hc2.out w324).mono ?_
      rintro e w329 ⟨rfl, hb_⟩
      have B330 := Aside0.mk (below_step B325.out hb_)
      have B331 := Aside0.mk (below_step B326.out hb_)
      have H332 := Aside0.mk (blk_below H327.out hb_)
      have H333 := Aside0.mk (blk_below H328.out hb_)
      clear hb_ B325 B326 H327 H328
      go_wp2_with fail
      go_roundg go
      case measure => have := HK.out; omega
      case rel => exact ⟨3, rfl, ⟨by have := HK.out; omega⟩, H332, H333, HN, ⟨(Kd.C_below HC.out B331.out)⟩, B330⟩
    · obtain ⟨go, rfl⟩ : ∃ j, gk = j + 1 := ⟨gk - 1, by have := HK.out; omega⟩
      go_wp2_with (first | ((with_reducible refine gate_dst (N := 76) rfl ?_); refine loadG_event (T := 72) (by rfl) rfl rfl (loadVar_sub (pre := [.int .u32 0, .int .u32 0, .int .u32 0, .slice none 0 0, .int .i64 0, .int .u32 5, .int .u32 4294967295, .int .u32 4, .slice none 0 0, .int .i64 4, .int .u32 0, .int .u32 16777216, .int .u32 16777217, .slice none 0 0, .int .i64 4]) (vs := [.int .u32 0, .int .u32 16777215, .int .u32 0, .slice none 0 0, .int .i64 4]) (post := [.int .u32 0, .int .u32 4294967295, .int .u32 0, .slice none 0 0, .int .i64 3, .int .u32 0, .int .u32 4294967295, .int .u32 0, .slice none 0 0, .int .i64 1000001, .int .u32 0, .int .u32 4294967295, .int .u32 0, .slice (some ⟨gm, 0, none⟩) 20001 c_gm, .int .i64 4]) HB.out 72 (by kernel_rfl) (by kernel_rfl)) ?_))
      refine (Hg3.out wr).mono ?_
      rintro e w401 ⟨v0_, rfl, hR_, hb_⟩
      have B402 := Aside0.mk (below_step BB.out hb_)
      have B403 := Aside0.mk (hb_)
      have H404 := Aside0.mk (blk_below HB.out hb_)
      have H405 := Aside0.mk (blk_below HB1.out hb_)
      clear hb_ BB HB HB1
      obtain ⟨rq406, cq406, rfl, hle_, hC_⟩ := Kd.R_reads hR_
      clear hle_ hC_ hR_
      rw [show ([] : List Int).length = 0 from rfl]
      go_wp2_with (first | ((with_reducible refine gate_dst (N := 10) rfl ?_); refine box_event ?hg (N := 10) ?hd (cs := #[.int .u32 0, .int .u32 0, .int .u32 0, .slice none 0 0, .int .i64 0]) (t := 72) ?hr ?_; (case hd => rfl); (case hg => rfl); (case hr => first | (go_simp; done) | (go_simp; rfl)); intro g407 hgg407 w408 hhg407 hbg407; have H417 := Aside0.mk hhg407; have N409 : g215 ≠ g407 := Nat.ne_of_lt (Nat.lt_of_lt_of_eq (blk_lt H404.out) hgg407.symm); have N410 : g1 ≠ g407 := Nat.ne_of_lt (Nat.lt_of_lt_of_eq (blk_lt H405.out) hgg407.symm); have G411 : w.heap.size ≤ g407 := Nat.le_trans B402.out.size (Nat.le_of_eq hgg407.symm); have G412 : wr.heap.size ≤ g407 := Nat.le_trans B403.out.size (Nat.le_of_eq hgg407.symm); have B413 := Aside0.mk (below_step B402.out hbg407); have B414 := Aside0.mk (below_step B403.out hbg407); have H415 := Aside0.mk (blk_below H404.out hbg407); have H416 := Aside0.mk (blk_below H405.out hbg407); clear hgg407 hhg407 hbg407 B402 B403 H404 H405) | ((with_reducible refine gate_store (t := 72) (p := _) rfl ?_); refine storeN_event (T := 72) rfl rfl rfl rfl rfl (storeVar_blk H417.out 72 0 [.int .u32 0, .int .u32 0, .int .u32 0, .slice rq406 0 cq406, .int .i64 0] (by kernel_rfl) rfl (by simp)) ?_; have H419 := Aside0.mk (show (World.setCells w408 g407 0 [.int .u32 0, .int .u32 0, .int .u32 0, .slice rq406 0 cq406, .int .i64 0]).heap[g407]? = some (.cells #[.int .u32 0, .int .u32 0, .int .u32 0, .slice rq406 0 cq406, .int .i64 0] 72 (0, 0)) from blk_setCells [] [.int .u32 0, .int .u32 0, .int .u32 0, .slice rq406 0 cq406, .int .i64 0] [.int .u32 0, .int .u32 0, .int .u32 0, .slice none 0 0, .int .i64 0] [] w408 rfl H417.out); have H420 := Aside0.mk (far_setCells N409 [.int .u32 0, .int .u32 0, .int .u32 0, .slice rq406 0 cq406, .int .i64 0] 0 w408 H415.out); have H421 := Aside0.mk (far_setCells N410 [.int .u32 0, .int .u32 0, .int .u32 0, .slice rq406 0 cq406, .int .i64 0] 0 w408 H416.out); have B422 := Aside0.mk (below_setCells G411 [.int .u32 0, .int .u32 0, .int .u32 0, .slice rq406 0 cq406, .int .i64 0] 0 w408 B413.out); have B423 := Aside0.mk (below_setCells G412 [.int .u32 0, .int .u32 0, .int .u32 0, .slice rq406 0 cq406, .int .i64 0] 0 w408 B414.out); clear H417 H415 H416 B413 B414; generalize World.setCells w408 g407 0 [.int .u32 0, .int .u32 0, .int .u32 0, .slice rq406 0 cq406, .int .i64 0] = w418 at H420 H421 H419 B422 B423 ⊢) | ((with_reducible refine gate_dst (N := 85) rfl ?_); refine loadG_event (T := 72) (by rfl) rfl rfl (loadVar_sub (pre := [.int .u32 0, .int .u32 0, .int .u32 0, .slice none 0 0, .int .i64 0, .int .u32 5, .int .u32 4294967295, .int .u32 4, .slice none 0 0, .int .i64 4, .int .u32 0, .int .u32 16777216, .int .u32 16777217, .slice none 0 0, .int .i64 4]) (vs := [.int .u32 0, .int .u32 16777215, .int .u32 0, .slice none 0 0, .int .i64 4]) (post := [.int .u32 0, .int .u32 4294967295, .int .u32 0, .slice none 0 0, .int .i64 3, .int .u32 0, .int .u32 4294967295, .int .u32 0, .slice none 0 0, .int .i64 1000001, .int .u32 0, .int .u32 4294967295, .int .u32 0, .slice (some ⟨gm, 0, none⟩) 20001 c_gm, .int .i64 4]) H420.out 72 (by kernel_rfl) (by kernel_rfl)) ?_))
      refine (Ho3.out w418).mono ?_
      rintro e w424 ⟨rfl, hb_⟩
      have B425 := Aside0.mk (below_step B422.out hb_)
      have B426 := Aside0.mk (below_step B423.out hb_)
      have H427 := Aside0.mk (blk_below H420.out hb_)
      have H428 := Aside0.mk (blk_below H421.out hb_)
      clear hb_ B422 B423 H420 H421
      go_wp2_with (first | ((with_reducible refine gate_dst (N := 92) rfl ?_); refine loadG_event (T := 72) (by rfl) rfl rfl (loadVar_sub (pre := [.int .u32 0, .int .u32 0, .int .u32 0, .slice none 0 0, .int .i64 0, .int .u32 5, .int .u32 4294967295, .int .u32 4, .slice none 0 0, .int .i64 4, .int .u32 0, .int .u32 16777216, .int .u32 16777217, .slice none 0 0, .int .i64 4]) (vs := [.int .u32 0, .int .u32 16777215, .int .u32 0, .slice none 0 0, .int .i64 4]) (post := [.int .u32 0, .int .u32 4294967295, .int .u32 0, .slice none 0 0, .int .i64 3, .int .u32 0, .int .u32 4294967295, .int .u32 0, .slice none 0 0, .int .i64 1000001, .int .u32 0, .int .u32 4294967295, .int .u32 0, .slice (some ⟨gm, 0, none⟩) 20001 c_gm, .int .i64 4]) H427.out 72 (by kernel_rfl) (by kernel_rfl)) ?_))
      refine (Hc3.out w424).mono ?_
      rintro e w429 ⟨rfl, hb_⟩
      have B430 := Aside0.mk (below_step B425.out hb_)
      have B431 := Aside0.mk (below_step B426.out hb_)
      have H432 := Aside0.mk (blk_below H427.out hb_)
      have H433 := Aside0.mk (blk_below H428.out hb_)
      clear hb_ B425 B426 H427 H428
      go_wp2_with fail
      go_roundg go
      case measure => have := HK.out; omega
      case rel => exact ⟨4, rfl, ⟨by have := HK.out; omega⟩, H432, H433, HN, ⟨(Kd.C_below HC.out B431.out)⟩, B430⟩
    · obtain ⟨go, rfl⟩ : ∃ j, gk = j + 1 := ⟨gk - 1, by have := HK.out; omega⟩
      go_wp2_with (first | ((with_reducible refine gate_dst (N := 76) rfl ?_); refine loadG_event (T := 72) (by rfl) rfl rfl (loadVar_sub (pre := [.int .u32 0, .int .u32 0, .int .u32 0, .slice none 0 0, .int .i64 0, .int .u32 5, .int .u32 4294967295, .int .u32 4, .slice none 0 0, .int .i64 4, .int .u32 0, .int .u32 16777216, .int .u32 16777217, .slice none 0 0, .int .i64 4, .int .u32 0, .int .u32 16777215, .int .u32 0, .slice none 0 0, .int .i64 4]) (vs := [.int .u32 0, .int .u32 4294967295, .int .u32 0, .slice none 0 0, .int .i64 3]) (post := [.int .u32 0, .int .u32 4294967295, .int .u32 0, .slice none 0 0, .int .i64 1000001, .int .u32 0, .int .u32 4294967295, .int .u32 0, .slice (some ⟨gm, 0, none⟩) 20001 c_gm, .int .i64 4]) HB.out 72 (by kernel_rfl) (by kernel_rfl)) ?_))
      refine (Hg4.out wr).mono ?_
      rintro e w501 ⟨v0_, rfl, hR_, hb_⟩
      have B502 := Aside0.mk (below_step BB.out hb_)
      have B503 := Aside0.mk (hb_)
      have H504 := Aside0.mk (blk_below HB.out hb_)
      have H505 := Aside0.mk (blk_below HB1.out hb_)
      clear hb_ BB HB HB1
      obtain ⟨rq506, cq506, rfl, hle_, hC_⟩ := Kd.R_reads hR_
      clear hle_ hC_ hR_
      rw [show ([] : List Int).length = 0 from rfl]
      go_wp2_with (first | ((with_reducible refine gate_dst (N := 10) rfl ?_); refine box_event ?hg (N := 10) ?hd (cs := #[.int .u32 0, .int .u32 0, .int .u32 0, .slice none 0 0, .int .i64 0]) (t := 72) ?hr ?_; (case hd => rfl); (case hg => rfl); (case hr => first | (go_simp; done) | (go_simp; rfl)); intro g507 hgg507 w508 hhg507 hbg507; have H517 := Aside0.mk hhg507; have N509 : g215 ≠ g507 := Nat.ne_of_lt (Nat.lt_of_lt_of_eq (blk_lt H504.out) hgg507.symm); have N510 : g1 ≠ g507 := Nat.ne_of_lt (Nat.lt_of_lt_of_eq (blk_lt H505.out) hgg507.symm); have G511 : w.heap.size ≤ g507 := Nat.le_trans B502.out.size (Nat.le_of_eq hgg507.symm); have G512 : wr.heap.size ≤ g507 := Nat.le_trans B503.out.size (Nat.le_of_eq hgg507.symm); have B513 := Aside0.mk (below_step B502.out hbg507); have B514 := Aside0.mk (below_step B503.out hbg507); have H515 := Aside0.mk (blk_below H504.out hbg507); have H516 := Aside0.mk (blk_below H505.out hbg507); clear hgg507 hhg507 hbg507 B502 B503 H504 H505) | ((with_reducible refine gate_store (t := 72) (p := _) rfl ?_); refine storeN_event (T := 72) rfl rfl rfl rfl rfl (storeVar_blk H517.out 72 0 [.int .u32 0, .int .u32 0, .int .u32 0, .slice rq506 0 cq506, .int .i64 0] (by kernel_rfl) rfl (by simp)) ?_; have H519 := Aside0.mk (show (World.setCells w508 g507 0 [.int .u32 0, .int .u32 0, .int .u32 0, .slice rq506 0 cq506, .int .i64 0]).heap[g507]? = some (.cells #[.int .u32 0, .int .u32 0, .int .u32 0, .slice rq506 0 cq506, .int .i64 0] 72 (0, 0)) from blk_setCells [] [.int .u32 0, .int .u32 0, .int .u32 0, .slice rq506 0 cq506, .int .i64 0] [.int .u32 0, .int .u32 0, .int .u32 0, .slice none 0 0, .int .i64 0] [] w508 rfl H517.out); have H520 := Aside0.mk (far_setCells N509 [.int .u32 0, .int .u32 0, .int .u32 0, .slice rq506 0 cq506, .int .i64 0] 0 w508 H515.out); have H521 := Aside0.mk (far_setCells N510 [.int .u32 0, .int .u32 0, .int .u32 0, .slice rq506 0 cq506, .int .i64 0] 0 w508 H516.out); have B522 := Aside0.mk (below_setCells G511 [.int .u32 0, .int .u32 0, .int .u32 0, .slice rq506 0 cq506, .int .i64 0] 0 w508 B513.out); have B523 := Aside0.mk (below_setCells G512 [.int .u32 0, .int .u32 0, .int .u32 0, .slice rq506 0 cq506, .int .i64 0] 0 w508 B514.out); clear H517 H515 H516 B513 B514; generalize World.setCells w508 g507 0 [.int .u32 0, .int .u32 0, .int .u32 0, .slice rq506 0 cq506, .int .i64 0] = w518 at H520 H521 H519 B522 B523 ⊢) | ((with_reducible refine gate_dst (N := 85) rfl ?_); refine loadG_event (T := 72) (by rfl) rfl rfl (loadVar_sub (pre := [.int .u32 0, .int .u32 0, .int .u32 0, .slice none 0 0, .int .i64 0, .int .u32 5, .int .u32 4294967295, .int .u32 4, .slice none 0 0, .int .i64 4, .int .u32 0, .int .u32 16777216, .int .u32 16777217, .slice none 0 0, .int .i64 4, .int .u32 0, .int .u32 16777215, .int .u32 0, .slice none 0 0, .int .i64 4]) (vs := [.int .u32 0, .int .u32 4294967295, .int .u32 0, .slice none 0 0, .int .i64 3]) (post := [.int .u32 0, .int .u32 4294967295, .int .u32 0, .slice none 0 0, .int .i64 1000001, .int .u32 0, .int .u32 4294967295, .int .u32 0, .slice (some ⟨gm, 0, none⟩) 20001 c_gm, .int .i64 4]) H520.out 72 (by kernel_rfl) (by kernel_rfl)) ?_))
      refine (Ho4.out w518).mono ?_
      rintro e w524 ⟨rfl, hb_⟩
      have B525 := Aside0.mk (below_step B522.out hb_)
      have B526 := Aside0.mk (below_step B523.out hb_)
      have H527 := Aside0.mk (blk_below H520.out hb_)
      have H528 := Aside0.mk (blk_below H521.out hb_)
      clear hb_ B522 B523 H520 H521
      go_wp2_with (first | ((with_reducible refine gate_dst (N := 92) rfl ?_); refine loadG_event (T := 72) (by rfl) rfl rfl (loadVar_sub (pre := [.int .u32 0, .int .u32 0, .int .u32 0, .slice none 0 0, .int .i64 0, .int .u32 5, .int .u32 4294967295, .int .u32 4, .slice none 0 0, .int .i64 4, .int .u32 0, .int .u32 16777216, .int .u32 16777217, .slice none 0 0, .int .i64 4, .int .u32 0, .int .u32 16777215, .int .u32 0, .slice none 0 0, .int .i64 4]) (vs := [.int .u32 0, .int .u32 4294967295, .int .u32 0, .slice none 0 0, .int .i64 3]) (post := [.int .u32 0, .int .u32 4294967295, .int .u32 0, .slice none 0 0, .int .i64 1000001, .int .u32 0, .int .u32 4294967295, .int .u32 0, .slice (some ⟨gm, 0, none⟩) 20001 c_gm, .int .i64 4]) H527.out 72 (by kernel_rfl) (by kernel_rfl)) ?_))
      refine (Hc4.out w524).mono ?_
      rintro e w529 ⟨rfl, hb_⟩
      have B530 := Aside0.mk (below_step B525.out hb_)
      have B531 := Aside0.mk (below_step B526.out hb_)
      have H532 := Aside0.mk (blk_below H527.out hb_)
      have H533 := Aside0.mk (blk_below H528.out hb_)
      clear hb_ B525 B526 H527 H528
      go_wp2_with fail
      go_roundg go
      case measure => have := HK.out; omega
      case rel => exact ⟨5, rfl, ⟨by have := HK.out; omega⟩, H532, H533, HN, ⟨(Kd.C_below HC.out B531.out)⟩, B530⟩
    · obtain ⟨go, rfl⟩ : ∃ j, gk = j + 1 := ⟨gk - 1, by have := HK.out; omega⟩
      go_wp2_with (first | ((with_reducible refine gate_dst (N := 76) rfl ?_); refine loadG_event (T := 72) (by rfl) rfl rfl (loadVar_sub (pre := [.int .u32 0, .int .u32 0, .int .u32 0, .slice none 0 0, .int .i64 0, .int .u32 5, .int .u32 4294967295, .int .u32 4, .slice none 0 0, .int .i64 4, .int .u32 0, .int .u32 16777216, .int .u32 16777217, .slice none 0 0, .int .i64 4, .int .u32 0, .int .u32 16777215, .int .u32 0, .slice none 0 0, .int .i64 4, .int .u32 0, .int .u32 4294967295, .int .u32 0, .slice none 0 0, .int .i64 3]) (vs := [.int .u32 0, .int .u32 4294967295, .int .u32 0, .slice none 0 0, .int .i64 1000001]) (post := [.int .u32 0, .int .u32 4294967295, .int .u32 0, .slice (some ⟨gm, 0, none⟩) 20001 c_gm, .int .i64 4]) HB.out 72 (by kernel_rfl) (by kernel_rfl)) ?_))
      refine (Hg5.out wr).mono ?_
      rintro e w601 ⟨v0_, rfl, hR_, hb_⟩
      have B602 := Aside0.mk (below_step BB.out hb_)
      have B603 := Aside0.mk (hb_)
      have H604 := Aside0.mk (blk_below HB.out hb_)
      have H605 := Aside0.mk (blk_below HB1.out hb_)
      clear hb_ BB HB HB1
      obtain ⟨rq606, cq606, rfl, hle_, hC_⟩ := Kd.R_reads hR_
      clear hle_ hC_ hR_
      rw [show ([] : List Int).length = 0 from rfl]
      go_wp2_with (first | ((with_reducible refine gate_dst (N := 10) rfl ?_); refine box_event ?hg (N := 10) ?hd (cs := #[.int .u32 0, .int .u32 0, .int .u32 0, .slice none 0 0, .int .i64 0]) (t := 72) ?hr ?_; (case hd => rfl); (case hg => rfl); (case hr => first | (go_simp; done) | (go_simp; rfl)); intro g607 hgg607 w608 hhg607 hbg607; have H617 := Aside0.mk hhg607; have N609 : g215 ≠ g607 := Nat.ne_of_lt (Nat.lt_of_lt_of_eq (blk_lt H604.out) hgg607.symm); have N610 : g1 ≠ g607 := Nat.ne_of_lt (Nat.lt_of_lt_of_eq (blk_lt H605.out) hgg607.symm); have G611 : w.heap.size ≤ g607 := Nat.le_trans B602.out.size (Nat.le_of_eq hgg607.symm); have G612 : wr.heap.size ≤ g607 := Nat.le_trans B603.out.size (Nat.le_of_eq hgg607.symm); have B613 := Aside0.mk (below_step B602.out hbg607); have B614 := Aside0.mk (below_step B603.out hbg607); have H615 := Aside0.mk (blk_below H604.out hbg607); have H616 := Aside0.mk (blk_below H605.out hbg607); clear hgg607 hhg607 hbg607 B602 B603 H604 H605) | ((with_reducible refine gate_store (t := 72) (p := _) rfl ?_); refine storeN_event (T := 72) rfl rfl rfl rfl rfl (storeVar_blk H617.out 72 0 [.int .u32 0, .int .u32 0, .int .u32 0, .slice rq606 0 cq606, .int .i64 0] (by kernel_rfl) rfl (by simp)) ?_; have H619 := Aside0.mk (show (World.setCells w608 g607 0 [.int .u32 0, .int .u32 0, .int .u32 0, .slice rq606 0 cq606, .int .i64 0]).heap[g607]? = some (.cells #[.int .u32 0, .int .u32 0, .int .u32 0, .slice rq606 0 cq606, .int .i64 0] 72 (0, 0)) from blk_setCells [] [.int .u32 0, .int .u32 0, .int .u32 0, .slice rq606 0 cq606, .int .i64 0] [.int .u32 0, .int .u32 0, .int .u32 0, .slice none 0 0, .int .i64 0] [] w608 rfl H617.out); have H620 := Aside0.mk (far_setCells N609 [.int .u32 0, .int .u32 0, .int .u32 0, .slice rq606 0 cq606, .int .i64 0] 0 w608 H615.out); have H621 := Aside0.mk (far_setCells N610 [.int .u32 0, .int .u32 0, .int .u32 0, .slice rq606 0 cq606, .int .i64 0] 0 w608 H616.out); have B622 := Aside0.mk (below_setCells G611 [.int .u32 0, .int .u32 0, .int .u32 0, .slice rq606 0 cq606, .int .i64 0] 0 w608 B613.out); have B623 := Aside0.mk (below_setCells G612 [.int .u32 0, .int .u32 0, .int .u32 0, .slice rq606 0 cq606, .int .i64 0] 0 w608 B614.out); clear H617 H615 H616 B613 B614; generalize World.setCells w608 g607 0 [.int .u32 0, .int .u32 0, .int .u32 0, .slice rq606 0 cq606, .int .i64 0] = w618 at H620 H621 H619 B622 B623 ⊢) | ((with_reducible refine gate_dst (N := 85) rfl ?_); refine loadG_event (T := 72) (by rfl) rfl rfl (loadVar_sub (pre := [.int .u32 0, .int .u32 0, .int .u32 0, .slice none 0 0, .int .i64 0, .int .u32 5, .int .u32 4294967295, .int .u32 4, .slice none 0 0, .int .i64 4, .int .u32 0, .int .u32 16777216, .int .u32 16777217, .slice none 0 0, .int .i64 4, .int .u32 0, .int .u32 16777215, .int .u32 0, .slice none 0 0, .int .i64 4, .int .u32 0, .int .u32 4294967295, .int .u32 0, .slice none 0 0, .int .i64 3]) (vs := [.int .u32 0, .int .u32 4294967295, .int .u32 0, .slice none 0 0, .int .i64 1000001]) (post := [.int .u32 0, .int .u32 4294967295, .int .u32 0, .slice (some ⟨gm, 0, none⟩) 20001 c_gm, .int .i64 4]) H620.out 72 (by kernel_rfl) (by kernel_rfl)) ?_))
      refine (Ho5.out w618).mono ?_
      rintro e w624 ⟨rfl, hb_⟩
      have B625 := Aside0.mk (below_step B622.out hb_)
      have B626 := Aside0.mk (below_step B623.out hb_)
      have H627 := Aside0.mk (blk_below H620.out hb_)
      have H628 := Aside0.mk (blk_below H621.out hb_)
      clear hb_ B622 B623 H620 H621
      go_wp2_with (first | ((with_reducible refine gate_dst (N := 92) rfl ?_); refine loadG_event (T := 72) (by rfl) rfl rfl (loadVar_sub (pre := [.int .u32 0, .int .u32 0, .int .u32 0, .slice none 0 0, .int .i64 0, .int .u32 5, .int .u32 4294967295, .int .u32 4, .slice none 0 0, .int .i64 4, .int .u32 0, .int .u32 16777216, .int .u32 16777217, .slice none 0 0, .int .i64 4, .int .u32 0, .int .u32 16777215, .int .u32 0, .slice none 0 0, .int .i64 4, .int .u32 0, .int .u32 4294967295, .int .u32 0, .slice none 0 0, .int .i64 3]) (vs := [.int .u32 0, .int .u32 4294967295, .int .u32 0, .slice none 0 0, .int .i64 1000001]) (post := [.int .u32 0, .int .u32 4294967295, .int .u32 0, .slice (some ⟨gm, 0, none⟩) 20001 c_gm, .int .i64 4]) H627.out 72 (by kernel_rfl) (by kernel_rfl)) ?_))
      refine (Hc5.out w624).mono ?_
      rintro e w629 ⟨rfl, hb_⟩
      have B630 := Aside0.mk (below_step B625.out hb_)
      have B631 := Aside0.mk (below_step B626.out hb_)
      have H632 := Aside0.mk (blk_below H627.out hb_)
      have H633 := Aside0.mk (blk_below H628.out hb_)
      clear hb_ B625 B626 H627 H628
      go_wp2_with fail
      go_roundg go
      case measure => have := HK.out; omega
      case rel => exact ⟨6, rfl, ⟨by have := HK.out; omega⟩, H632, H633, HN, ⟨(Kd.C_below HC.out B631.out)⟩, B630⟩
    · obtain ⟨go, rfl⟩ : ∃ j, gk = j + 1 := ⟨gk - 1, by have := HK.out; omega⟩
      go_wp2_with (first | ((with_reducible refine gate_dst (N := 76) rfl ?_); refine loadG_event (T := 72) (by rfl) rfl rfl (loadVar_sub (pre := [.int .u32 0, .int .u32 0, .int .u32 0, .slice none 0 0, .int .i64 0, .int .u32 5, .int .u32 4294967295, .int .u32 4, .slice none 0 0, .int .i64 4, .int .u32 0, .int .u32 16777216, .int .u32 16777217, .slice none 0 0, .int .i64 4, .int .u32 0, .int .u32 16777215, .int .u32 0, .slice none 0 0, .int .i64 4, .int .u32 0, .int .u32 4294967295, .int .u32 0, .slice none 0 0, .int .i64 3, .int .u32 0, .int .u32 4294967295, .int .u32 0, .slice none 0 0, .int .i64 1000001]) (vs := [.int .u32 0, .int .u32 4294967295, .int .u32 0, .slice (some ⟨gm, 0, none⟩) 20001 c_gm, .int .i64 4]) (post := []) HB.out 72 (by kernel_rfl) (by kernel_rfl)) ?_))
      refine (Hg6.out wr (some ⟨gm, 0, none⟩) c_gm (Kd.C_below HC.out (Below.refl _ _)) L205.out).mono ?_
      rintro e w701 ⟨v0_, rfl, hR_, hb_⟩
      have B702 := Aside0.mk (below_step BB.out hb_)
      have B703 := Aside0.mk (hb_)
      have H704 := Aside0.mk (blk_below HB.out hb_)
      have H705 := Aside0.mk (blk_below HB1.out hb_)
      clear hb_ BB HB HB1
      obtain ⟨rq706, cq706, rfl, hle_, hC_⟩ := Kd.R_reads hR_
      clear hle_ hC_ hR_
      rw [show ([] : List Int).length = 0 from rfl]
      go_wp2_with (first | ((with_reducible refine gate_dst (N := 10) rfl ?_); refine box_event ?hg (N := 10) ?hd (cs := #[.int .u32 0, .int .u32 0, .int .u32 0, .slice none 0 0, .int .i64 0]) (t := 72) ?hr ?_; (case hd => rfl); (case hg => rfl); (case hr => first | (go_simp; done) | (go_simp; rfl)); intro g707 hgg707 w708 hhg707 hbg707; have H717 := Aside0.mk hhg707; have N709 : g215 ≠ g707 := Nat.ne_of_lt (Nat.lt_of_lt_of_eq (blk_lt H704.out) hgg707.symm); have N710 : g1 ≠ g707 := Nat.ne_of_lt (Nat.lt_of_lt_of_eq (blk_lt H705.out) hgg707.symm); have G711 : w.heap.size ≤ g707 := Nat.le_trans B702.out.size (Nat.le_of_eq hgg707.symm); have G712 : wr.heap.size ≤ g707 := Nat.le_trans B703.out.size (Nat.le_of_eq hgg707.symm); have B713 := Aside0.mk (below_step B702.out hbg707); have B714 := Aside0.mk (below_step B703.out hbg707); have H715 := Aside0.mk (blk_below H704.out hbg707); have H716 := Aside0.mk (blk_below H705.out hbg707); clear hgg707 hhg707 hbg707 B702 B703 H704 H705) | ((with_reducible refine gate_store (t := 72) (p := _) rfl ?_); refine storeN_event (T := 72) rfl rfl rfl rfl rfl (storeVar_blk H717.out 72 0 [.int .u32 0, .int .u32 0, .int .u32 0, .slice rq706 0 cq706, .int .i64 0] (by kernel_rfl) rfl (by simp)) ?_; have H719 := Aside0.mk (show (World.setCells w708 g707 0 [.int .u32 0, .int .u32 0, .int .u32 0, .slice rq706 0 cq706, .int .i64 0]).heap[g707]? = some (.cells #[.int .u32 0, .int .u32 0, .int .u32 0, .slice rq706 0 cq706, .int .i64 0] 72 (0, 0)) from blk_setCells [] [.int .u32 0, .int .u32 0, .int .u32 0, .slice rq706 0 cq706, .int .i64 0] [.int .u32 0, .int .u32 0, .int .u32 0, .slice none 0 0, .int .i64 0] [] w708 rfl H717.out); have H720 := Aside0.mk (far_setCells N709 [.int .u32 0, .int .u32 0, .int .u32 0, .slice rq706 0 cq706, .int .i64 0] 0 w708 H715.out); have H721 := Aside0.mk (far_setCells N710 [.int .u32 0, .int .u32 0, .int .u32 0, .slice rq706 0 cq706, .int .i64 0] 0 w708 H716.out); have B722 := Aside0.mk (below_setCells G711 [.int .u32 0, .int .u32 0, .int .u32 0, .slice rq706 0 cq706, .int .i64 0] 0 w708 B713.out); have B723 := Aside0.mk (below_setCells G712 [.int .u32 0, .int .u32 0, .int .u32 0, .slice rq706 0 cq706, .int .i64 0] 0 w708 B714.out); clear H717 H715 H716 B713 B714; generalize World.setCells w708 g707 0 [.int .u32 0, .int .u32 0, .int .u32 0, .slice rq706 0 cq706, .int .i64 0] = w718 at H720 H721 H719 B722 B723 ⊢) | ((with_reducible refine gate_dst (N := 85) rfl ?_); refine loadG_event (T := 72) (by rfl) rfl rfl (loadVar_sub (pre := [.int .u32 0, .int .u32 0, .int .u32 0, .slice none 0 0, .int .i64 0, .int .u32 5, .int .u32 4294967295, .int .u32 4, .slice none 0 0, .int .i64 4, .int .u32 0, .int .u32 16777216, .int .u32 16777217, .slice none 0 0, .int .i64 4, .int .u32 0, .int .u32 16777215, .int .u32 0, .slice none 0 0, .int .i64 4, .int .u32 0, .int .u32 4294967295, .int .u32 0, .slice none 0 0, .int .i64 3, .int .u32 0, .int .u32 4294967295, .int .u32 0, .slice none 0 0, .int .i64 1000001]) (vs := [.int .u32 0, .int .u32 4294967295, .int .u32 0, .slice (some ⟨gm, 0, none⟩) 20001 c_gm, .int .i64 4]) (post := []) H720.out 72 (by kernel_rfl) (by kernel_rfl)) ?_))
      refine (Ho6.out w718 (some ⟨gm, 0, none⟩) c_gm (Kd.C_below HC.out B723.out) L205.out).mono ?_
      rintro e w724 ⟨rfl, hb_⟩
      have B725 := Aside0.mk (below_step B722.out hb_)
      have B726 := Aside0.mk (below_step B723.out hb_)
      have H727 := Aside0.mk (blk_below H720.out hb_)
      have H728 := Aside0.mk (blk_below H721.out hb_)
      clear hb_ B722 B723 H720 H721
      go_wp2_with (first | ((with_reducible refine gate_dst (N := 92) rfl ?_); refine loadG_event (T := 72) (by rfl) rfl rfl (loadVar_sub (pre := [.int .u32 0, .int .u32 0, .int .u32 0, .slice none 0 0, .int .i64 0, .int .u32 5, .int .u32 4294967295, .int .u32 4, .slice none 0 0, .int .i64 4, .int .u32 0, .int .u32 16777216, .int .u32 16777217, .slice none 0 0, .int .i64 4, .int .u32 0, .int .u32 16777215, .int .u32 0, .slice none 0 0, .int .i64 4, .int .u32 0, .int .u32 4294967295, .int .u32 0, .slice none 0 0, .int .i64 3, .int .u32 0, .int .u32 4294967295, .int .u32 0, .slice none 0 0, .int .i64 1000001]) (vs := [.int .u32 0, .int .u32 4294967295, .int .u32 0, .slice (some ⟨gm, 0, none⟩) 20001 c_gm, .int .i64 4]) (post := []) H727.out 72 (by kernel_rfl) (by kernel_rfl)) ?_))
      refine (Hc6.out w724 (some ⟨gm, 0, none⟩) c_gm (Kd.C_below HC.out B726.out) L205.out).mono ?_
      rintro e w729 ⟨rfl, hb_⟩
      have B730 := Aside0.mk (below_step B725.out hb_)
      have B731 := Aside0.mk (below_step B726.out hb_)
      have H732 := Aside0.mk (blk_below H727.out hb_)
      have H733 := Aside0.mk (blk_below H728.out hb_)
      clear hb_ B725 B726 H727 H728
      go_wp2_with fail
      go_roundg go
      case measure => have := HK.out; omega
      case rel => exact ⟨7, rfl, ⟨by have := HK.out; omega⟩, H732, H733, HN, ⟨(Kd.C_below HC.out B731.out)⟩, B730⟩
    · clear HK HB HC
      have h0 := True.intro
      go_wp2_with (first | ((with_reducible refine gate_dst (N := 104) rfl ?_); refine Kd.R_make (Kd.int .u8) (w0 := wr) _ 5 rfl (N := 104) rfl 30 _ _ rfl 20001 rfl rfl Try.underlying30 (.int .u8 0) 1 info5p rfl (by decide) (by decide) (0 : Int) (ok := fun _ => True) (okp := fun _ => True) rfl (fun _ h => h) trivial (by decide) (by decide) (Below.refl _ _) (Nat.le_refl _) ?_; intro v_ w2001 hO_ hb_ hg_ _; clear hg_; obtain ⟨gq, c_gq, rfl, hle_, hC_⟩ := row_formK (n := 20001) hO_ List.length_replicate (by decide); have B2002 := Aside0.mk (below_step BB.out hb_); have H2003 := Aside0.mk (blk_below HB1.out hb_); have R2004 := Aside0.mk (show Kd.C (Kd.int .u8) w2001 (some ⟨gq, 0, none⟩) 20001 (List.replicate 20001 (0 : Int)) from hC_); have L2005 := Aside0.mk hle_; clear hO_ hb_ hle_ hC_ BB HB1))
      refine (Hna.out w2001 (some ⟨gq, 0, none⟩) c_gq (Kd.C_below R2004.out (Below.refl _ _)) L2005.out).mono ?_
      rintro e w2006 ⟨v0_, rfl, hR_, hb_⟩
      have B2007 := Aside0.mk (below_step B2002.out hb_)
      have B2008 := Aside0.mk (hb_)
      have H2009 := Aside0.mk (blk_below H2003.out hb_)
      clear hb_ B2002 H2003
      obtain ⟨rq2010, cq2010, rfl, hle_, hC_⟩ := Kd.R_reads hR_
      clear hle_ hC_ hR_
      rw [show ([] : List Int).length = 0 from rfl]
      go_wp2_with (first | ((with_reducible refine gate_dst (N := 15) rfl ?_); refine box_event ?hg (N := 15) ?hd (cs := #[.int .u32 0, .int .u32 0, .int .u32 0, .slice none 0 0, .int .i64 0]) (t := 72) ?hr ?_; (case hd => rfl); (case hg => rfl); (case hr => first | (go_simp; done) | (go_simp; rfl)); intro g2011 hgg2011 w2012 hhg2011 hbg2011; have H2017 := Aside0.mk hhg2011; have N2013 : g1 ≠ g2011 := Nat.ne_of_lt (Nat.lt_of_lt_of_eq (blk_lt H2009.out) hgg2011.symm); have G2014 : w.heap.size ≤ g2011 := Nat.le_trans B2007.out.size (Nat.le_of_eq hgg2011.symm); have B2015 := Aside0.mk (below_step B2007.out hbg2011); have H2016 := Aside0.mk (blk_below H2009.out hbg2011); clear hgg2011 hhg2011 hbg2011 B2007 H2009) | ((with_reducible refine gate_store (t := 72) (p := _) rfl ?_); refine storeN_event (T := 72) rfl rfl rfl rfl rfl (storeVar_blk H2017.out 72 0 [.int .u32 0, .int .u32 0, .int .u32 0, .slice rq2010 0 cq2010, .int .i64 0] (by kernel_rfl) rfl (by simp)) ?_; have H2019 := Aside0.mk (show (World.setCells w2012 g2011 0 [.int .u32 0, .int .u32 0, .int .u32 0, .slice rq2010 0 cq2010, .int .i64 0]).heap[g2011]? = some (.cells #[.int .u32 0, .int .u32 0, .int .u32 0, .slice rq2010 0 cq2010, .int .i64 0] 72 (0, 0)) from blk_setCells [] [.int .u32 0, .int .u32 0, .int .u32 0, .slice rq2010 0 cq2010, .int .i64 0] [.int .u32 0, .int .u32 0, .int .u32 0, .slice none 0 0, .int .i64 0] [] w2012 rfl H2017.out); have H2020 := Aside0.mk (far_setCells N2013 [.int .u32 0, .int .u32 0, .int .u32 0, .slice rq2010 0 cq2010, .int .i64 0] 0 w2012 H2016.out); have B2021 := Aside0.mk (below_setCells G2014 [.int .u32 0, .int .u32 0, .int .u32 0, .slice rq2010 0 cq2010, .int .i64 0] 0 w2012 B2015.out); clear H2017 H2016 B2015; generalize World.setCells w2012 g2011 0 [.int .u32 0, .int .u32 0, .int .u32 0, .slice rq2010 0 cq2010, .int .i64 0] = w2018 at H2020 H2019 B2021 ⊢) | ((with_reducible refine gate_dst (N := 109) rfl ?_); refine lit_event ?hg (N := 109) ?hd (cs := #[.int .u8 1, .int .u8 2, .int .u8 3, .int .u8 4, .int .u8 5]) (t := 5) (n := 5) ?hr ?_; (case hd => rfl); (case hg => rfl); (case hr => first | (go_simp; done) | (go_simp; rfl)); intro g2022 hgg2022 w2023 hhg2022 hbg2022; have H2028 := Aside0.mk hhg2022; have N2024 : g1 ≠ g2022 := Nat.ne_of_lt (Nat.lt_of_lt_of_eq (blk_lt H2020.out) hgg2022.symm); have G2025 : w.heap.size ≤ g2022 := Nat.le_trans B2021.out.size (Nat.le_of_eq hgg2022.symm); have B2026 := Aside0.mk (below_step B2021.out hbg2022); have H2027 := Aside0.mk (blk_below H2020.out hbg2022); clear hgg2022 hhg2022 hbg2022 B2021 H2020))
      refine (Hnb.out w2023 (some ⟨g2022, 0, none⟩) 5 (ints_at (l := [1, 2, 3, 4, 5]) H2028.out (by decide)) (Nat.le_refl 5)).mono ?_
      rintro e w2029 ⟨v0_, rfl, hR_, hb_⟩
      have B2030 := Aside0.mk (below_step B2026.out hb_)
      have H2031 := Aside0.mk (blk_below H2027.out hb_)
      have H2032 := Aside0.mk (blk_below H2028.out hb_)
      clear hb_ B2026 H2027 H2028
      obtain ⟨rx, c_rx, rfl, hle_, hC_⟩ := Kd.R_reads hR_
      rw [show ([1, 2, 3, 4, 5] : List Int).length = 5 from rfl] at hC_ hle_ ⊢
      have Rrx := Aside0.mk hC_
      have Lrx := Aside0.mk hle_
      clear hle_ hC_ hR_
      go_wp2_with (first | ((with_reducible refine gate_dst (N := 17) rfl ?_); refine box_event ?hg (N := 17) ?hd (cs := #[.int .u32 0, .int .u32 0, .int .u32 0, .slice none 0 0, .int .i64 0]) (t := 72) ?hr ?_; (case hd => rfl); (case hg => rfl); (case hr => first | (go_simp; done) | (go_simp; rfl)); intro g2033 hgg2033 w2034 hhg2033 hbg2033; have H2041 := Aside0.mk hhg2033; have N2035 : g1 ≠ g2033 := Nat.ne_of_lt (Nat.lt_of_lt_of_eq (blk_lt H2031.out) hgg2033.symm); have G2036 : w.heap.size ≤ g2033 := Nat.le_trans B2030.out.size (Nat.le_of_eq hgg2033.symm); have G2037 : w2029.heap.size ≤ g2033 := Nat.le_of_eq hgg2033.symm; have B2038 := Aside0.mk (below_step B2030.out hbg2033); have B2039 := Aside0.mk (hbg2033); have H2040 := Aside0.mk (blk_below H2031.out hbg2033); clear hgg2033 hhg2033 hbg2033 B2030 H2031) | ((with_reducible refine gate_store (t := 72) (p := _) rfl ?_); refine storeN_event (T := 72) rfl rfl rfl rfl rfl (storeVar_blk H2041.out 72 0 [.int .u32 0, .int .u32 4294967295, .int .u32 16909060, .slice rx 5 c_rx, .int .i64 4] (by kernel_rfl) rfl (by simp)) ?_; have H2043 := Aside0.mk (show (World.setCells w2034 g2033 0 [.int .u32 0, .int .u32 4294967295, .int .u32 16909060, .slice rx 5 c_rx, .int .i64 4]).heap[g2033]? = some (.cells #[.int .u32 0, .int .u32 4294967295, .int .u32 16909060, .slice rx 5 c_rx, .int .i64 4] 72 (0, 0)) from blk_setCells [] [.int .u32 0, .int .u32 4294967295, .int .u32 16909060, .slice rx 5 c_rx, .int .i64 4] [.int .u32 0, .int .u32 0, .int .u32 0, .slice none 0 0, .int .i64 0] [] w2034 rfl H2041.out); have H2044 := Aside0.mk (far_setCells N2035 [.int .u32 0, .int .u32 4294967295, .int .u32 16909060, .slice rx 5 c_rx, .int .i64 4] 0 w2034 H2040.out); have B2045 := Aside0.mk (below_setCells G2036 [.int .u32 0, .int .u32 4294967295, .int .u32 16909060, .slice rx 5 c_rx, .int .i64 4] 0 w2034 B2038.out); have B2046 := Aside0.mk (below_setCells G2037 [.int .u32 0, .int .u32 4294967295, .int .u32 16909060, .slice rx 5 c_rx, .int .i64 4] 0 w2034 B2039.out); clear H2041 H2040 B2038 B2039; generalize World.setCells w2034 g2033 0 [.int .u32 0, .int .u32 4294967295, .int .u32 16909060, .slice rx 5 c_rx, .int .i64 4] = w2042 at H2044 H2043 B2045 B2046 ⊢) | ((with_reducible refine gate_dst (N := 114) rfl ?_); refine loadG_event (T := 72) (by rfl) rfl rfl (run_loadVar_row _ _ _ _ _ (0, 0) _ H2043.out Try.underlying72 rfl (by kernel_rfl)) ?_))
      refine (Hov.out w2042 rx c_rx (Kd.C_below Rrx.out B2046.out) Lrx.out).mono ?_
      rintro e w2047 ⟨rfl, hb_⟩
      have B2048 := Aside0.mk (below_step B2045.out hb_)
      have B2049 := Aside0.mk (below_step B2046.out hb_)
      have H2050 := Aside0.mk (blk_below H2044.out hb_)
      have H2051 := Aside0.mk (blk_below H2043.out hb_)
      clear hb_ B2045 B2046 H2044 H2043
      go_wp2_with (first | ((with_reducible refine gate_dst (N := 119) rfl ?_); refine loadG_event (T := 72) (by rfl) rfl rfl (run_loadVar_row _ _ _ _ _ (0, 0) _ H2050.out Try.underlying72 rfl (by kernel_rfl)) ?_))
      refine (Hga.out w2047).mono ?_
      rintro e w2052 ⟨v0_, rfl, hR_, hb_⟩
      have B2053 := Aside0.mk (below_step B2048.out hb_)
      have H2054 := Aside0.mk (blk_below H2050.out hb_)
      have H2055 := Aside0.mk (blk_below H2051.out hb_)
      clear hb_ B2048 H2050 H2051
      obtain ⟨rq2056, cq2056, rfl, hle_, hC_⟩ := Kd.R_reads hR_
      clear hle_ hC_ hR_
      rw [show ([] : List Int).length = 0 from rfl]
      go_wp2_with (first | ((with_reducible refine gate_dst (N := 21) rfl ?_); refine box_event ?hg (N := 21) ?hd (cs := #[.int .u32 0, .int .u32 0, .int .u32 0, .slice none 0 0, .int .i64 0]) (t := 72) ?hr ?_; (case hd => rfl); (case hg => rfl); (case hr => first | (go_simp; done) | (go_simp; rfl)); intro g2057 hgg2057 w2058 hhg2057 hbg2057; have H2065 := Aside0.mk hhg2057; have N2059 : g1 ≠ g2057 := Nat.ne_of_lt (Nat.lt_of_lt_of_eq (blk_lt H2054.out) hgg2057.symm); have N2060 : g2033 ≠ g2057 := Nat.ne_of_lt (Nat.lt_of_lt_of_eq (blk_lt H2055.out) hgg2057.symm); have G2061 : w.heap.size ≤ g2057 := Nat.le_trans B2053.out.size (Nat.le_of_eq hgg2057.symm); have B2062 := Aside0.mk (below_step B2053.out hbg2057); have H2063 := Aside0.mk (blk_below H2054.out hbg2057); have H2064 := Aside0.mk (blk_below H2055.out hbg2057); clear hgg2057 hhg2057 hbg2057 B2053 H2054 H2055) | ((with_reducible refine gate_store (t := 72) (p := _) rfl ?_); refine storeN_event (T := 72) rfl rfl rfl rfl rfl (storeVar_blk H2065.out 72 0 [.int .u32 0, .int .u32 0, .int .u32 0, .slice rq2056 0 cq2056, .int .i64 0] (by kernel_rfl) rfl (by simp)) ?_; have H2067 := Aside0.mk (show (World.setCells w2058 g2057 0 [.int .u32 0, .int .u32 0, .int .u32 0, .slice rq2056 0 cq2056, .int .i64 0]).heap[g2057]? = some (.cells #[.int .u32 0, .int .u32 0, .int .u32 0, .slice rq2056 0 cq2056, .int .i64 0] 72 (0, 0)) from blk_setCells [] [.int .u32 0, .int .u32 0, .int .u32 0, .slice rq2056 0 cq2056, .int .i64 0] [.int .u32 0, .int .u32 0, .int .u32 0, .slice none 0 0, .int .i64 0] [] w2058 rfl H2065.out); have H2068 := Aside0.mk (far_setCells N2059 [.int .u32 0, .int .u32 0, .int .u32 0, .slice rq2056 0 cq2056, .int .i64 0] 0 w2058 H2063.out); have H2069 := Aside0.mk (far_setCells N2060 [.int .u32 0, .int .u32 0, .int .u32 0, .slice rq2056 0 cq2056, .int .i64 0] 0 w2058 H2064.out); have B2070 := Aside0.mk (below_setCells G2061 [.int .u32 0, .int .u32 0, .int .u32 0, .slice rq2056 0 cq2056, .int .i64 0] 0 w2058 B2062.out); clear H2065 H2063 H2064 B2062; generalize World.setCells w2058 g2057 0 [.int .u32 0, .int .u32 0, .int .u32 0, .slice rq2056 0 cq2056, .int .i64 0] = w2066 at H2068 H2069 H2067 B2070 ⊢) | ((with_reducible refine gate_dst (N := 125) rfl ?_); refine loadG_event (T := 72) (by rfl) rfl rfl (run_loadVar_row _ _ _ _ _ (0, 0) _ H2068.out Try.underlying72 rfl (by kernel_rfl)) ?_))
      refine (Hgb.out w2066).mono ?_
      rintro e w2071 ⟨v0_, rfl, hR_, hb_⟩
      have B2072 := Aside0.mk (below_step B2070.out hb_)
      have H2073 := Aside0.mk (blk_below H2068.out hb_)
      have H2074 := Aside0.mk (blk_below H2069.out hb_)
      clear hb_ B2070 H2068 H2069
      obtain ⟨rq2075, cq2075, rfl, hle_, hC_⟩ := Kd.R_reads hR_
      clear hle_ hC_ hR_
      rw [show ([] : List Int).length = 0 from rfl]
      go_wp2_with (first | ((with_reducible refine gate_dst (N := 24) rfl ?_); refine box_event ?hg (N := 24) ?hd (cs := #[.int .u32 0, .int .u32 0, .int .u32 0, .slice none 0 0, .int .i64 0]) (t := 72) ?hr ?_; (case hd => rfl); (case hg => rfl); (case hr => first | (go_simp; done) | (go_simp; rfl)); intro g2076 hgg2076 w2077 hhg2076 hbg2076; have H2084 := Aside0.mk hhg2076; have N2078 : g1 ≠ g2076 := Nat.ne_of_lt (Nat.lt_of_lt_of_eq (blk_lt H2073.out) hgg2076.symm); have N2079 : g2033 ≠ g2076 := Nat.ne_of_lt (Nat.lt_of_lt_of_eq (blk_lt H2074.out) hgg2076.symm); have G2080 : w.heap.size ≤ g2076 := Nat.le_trans B2072.out.size (Nat.le_of_eq hgg2076.symm); have B2081 := Aside0.mk (below_step B2072.out hbg2076); have H2082 := Aside0.mk (blk_below H2073.out hbg2076); have H2083 := Aside0.mk (blk_below H2074.out hbg2076); clear hgg2076 hhg2076 hbg2076 B2072 H2073 H2074) | ((with_reducible refine gate_store (t := 72) (p := _) rfl ?_); refine storeN_event (T := 72) rfl rfl rfl rfl rfl (storeVar_blk H2084.out 72 0 [.int .u32 0, .int .u32 0, .int .u32 0, .slice rq2075 0 cq2075, .int .i64 0] (by kernel_rfl) rfl (by simp)) ?_; have H2086 := Aside0.mk (show (World.setCells w2077 g2076 0 [.int .u32 0, .int .u32 0, .int .u32 0, .slice rq2075 0 cq2075, .int .i64 0]).heap[g2076]? = some (.cells #[.int .u32 0, .int .u32 0, .int .u32 0, .slice rq2075 0 cq2075, .int .i64 0] 72 (0, 0)) from blk_setCells [] [.int .u32 0, .int .u32 0, .int .u32 0, .slice rq2075 0 cq2075, .int .i64 0] [.int .u32 0, .int .u32 0, .int .u32 0, .slice none 0 0, .int .i64 0] [] w2077 rfl H2084.out); have H2087 := Aside0.mk (far_setCells N2078 [.int .u32 0, .int .u32 0, .int .u32 0, .slice rq2075 0 cq2075, .int .i64 0] 0 w2077 H2082.out); have H2088 := Aside0.mk (far_setCells N2079 [.int .u32 0, .int .u32 0, .int .u32 0, .slice rq2075 0 cq2075, .int .i64 0] 0 w2077 H2083.out); have B2089 := Aside0.mk (below_setCells G2080 [.int .u32 0, .int .u32 0, .int .u32 0, .slice rq2075 0 cq2075, .int .i64 0] 0 w2077 B2081.out); clear H2084 H2082 H2083 B2081; generalize World.setCells w2077 g2076 0 [.int .u32 0, .int .u32 0, .int .u32 0, .slice rq2075 0 cq2075, .int .i64 0] = w2085 at H2087 H2088 H2086 B2089 ⊢) | ((with_reducible refine gate_dst (N := 27) rfl ?_); refine box_event ?hg (N := 27) ?hd (cs := #[.int .u32 0, .int .u32 0, .int .u32 0, .slice none 0 0, .int .i64 0]) (t := 72) ?hr ?_; (case hd => rfl); (case hg => rfl); (case hr => first | (go_simp; done) | (go_simp; rfl)); intro g2090 hgg2090 w2091 hhg2090 hbg2090; have H2096 := Aside0.mk hhg2090; have N2092 : g2033 ≠ g2090 := Nat.ne_of_lt (Nat.lt_of_lt_of_eq (blk_lt H2088.out) hgg2090.symm); have G2093 : w.heap.size ≤ g2090 := Nat.le_trans B2089.out.size (Nat.le_of_eq hgg2090.symm); have B2094 := Aside0.mk (below_step B2089.out hbg2090); have H2095 := Aside0.mk (blk_below H2088.out hbg2090); clear hgg2090 hhg2090 hbg2090 B2089 H2088) | ((with_reducible refine gate_store (t := 72) (p := _) rfl ?_); refine storeN_event (T := 72) rfl rfl rfl rfl rfl (storeVar_blk H2096.out 72 0 [.int .u32 16777215, .int .u32 16777216, .int .u32 16777215, .slice none 0 0, .int .i64 999998] (by kernel_rfl) rfl (by simp)) ?_; have H2098 := Aside0.mk (show (World.setCells w2091 g2090 0 [.int .u32 16777215, .int .u32 16777216, .int .u32 16777215, .slice none 0 0, .int .i64 999998]).heap[g2090]? = some (.cells #[.int .u32 16777215, .int .u32 16777216, .int .u32 16777215, .slice none 0 0, .int .i64 999998] 72 (0, 0)) from blk_setCells [] [.int .u32 16777215, .int .u32 16777216, .int .u32 16777215, .slice none 0 0, .int .i64 999998] [.int .u32 0, .int .u32 0, .int .u32 0, .slice none 0 0, .int .i64 0] [] w2091 rfl H2096.out); have H2099 := Aside0.mk (far_setCells N2092 [.int .u32 16777215, .int .u32 16777216, .int .u32 16777215, .slice none 0 0, .int .i64 999998] 0 w2091 H2095.out); have B2100 := Aside0.mk (below_setCells G2093 [.int .u32 16777215, .int .u32 16777216, .int .u32 16777215, .slice none 0 0, .int .i64 999998] 0 w2091 B2094.out); clear H2096 H2095 B2094; generalize World.setCells w2091 g2090 0 [.int .u32 16777215, .int .u32 16777216, .int .u32 16777215, .slice none 0 0, .int .i64 999998] = w2097 at H2099 H2098 B2100 ⊢) | ((with_reducible refine gate_dst (N := 132) rfl ?_); refine loadG_event (T := 72) (by rfl) rfl rfl (run_loadVar_row _ _ _ _ _ (0, 0) _ H2098.out Try.underlying72 rfl (by kernel_rfl)) ?_))
      refine (Hgc.out w2097).mono ?_
      rintro e w2101 ⟨v0_, rfl, hR_, hb_⟩
      have B2102 := Aside0.mk (below_step B2100.out hb_)
      have H2103 := Aside0.mk (blk_below H2099.out hb_)
      have H2104 := Aside0.mk (blk_below H2098.out hb_)
      clear hb_ B2100 H2099 H2098
      obtain ⟨rq2105, cq2105, rfl, hle_, hC_⟩ := Kd.R_reads hR_
      clear hle_ hC_ hR_
      rw [show ([] : List Int).length = 0 from rfl]
      go_wp2_with (first | ((with_reducible refine gate_dst (N := 28) rfl ?_); refine box_event ?hg (N := 28) ?hd (cs := #[.int .u32 0, .int .u32 0, .int .u32 0, .slice none 0 0, .int .i64 0]) (t := 72) ?hr ?_; (case hd => rfl); (case hg => rfl); (case hr => first | (go_simp; done) | (go_simp; rfl)); intro g2106 hgg2106 w2107 hhg2106 hbg2106; have H2114 := Aside0.mk hhg2106; have N2108 : g2033 ≠ g2106 := Nat.ne_of_lt (Nat.lt_of_lt_of_eq (blk_lt H2103.out) hgg2106.symm); have N2109 : g2090 ≠ g2106 := Nat.ne_of_lt (Nat.lt_of_lt_of_eq (blk_lt H2104.out) hgg2106.symm); have G2110 : w.heap.size ≤ g2106 := Nat.le_trans B2102.out.size (Nat.le_of_eq hgg2106.symm); have B2111 := Aside0.mk (below_step B2102.out hbg2106); have H2112 := Aside0.mk (blk_below H2103.out hbg2106); have H2113 := Aside0.mk (blk_below H2104.out hbg2106); clear hgg2106 hhg2106 hbg2106 B2102 H2103 H2104) | ((with_reducible refine gate_store (t := 72) (p := _) rfl ?_); refine storeN_event (T := 72) rfl rfl rfl rfl rfl (storeVar_blk H2114.out 72 0 [.int .u32 0, .int .u32 0, .int .u32 0, .slice rq2105 0 cq2105, .int .i64 0] (by kernel_rfl) rfl (by simp)) ?_; have H2116 := Aside0.mk (show (World.setCells w2107 g2106 0 [.int .u32 0, .int .u32 0, .int .u32 0, .slice rq2105 0 cq2105, .int .i64 0]).heap[g2106]? = some (.cells #[.int .u32 0, .int .u32 0, .int .u32 0, .slice rq2105 0 cq2105, .int .i64 0] 72 (0, 0)) from blk_setCells [] [.int .u32 0, .int .u32 0, .int .u32 0, .slice rq2105 0 cq2105, .int .i64 0] [.int .u32 0, .int .u32 0, .int .u32 0, .slice none 0 0, .int .i64 0] [] w2107 rfl H2114.out); have H2117 := Aside0.mk (far_setCells N2108 [.int .u32 0, .int .u32 0, .int .u32 0, .slice rq2105 0 cq2105, .int .i64 0] 0 w2107 H2112.out); have H2118 := Aside0.mk (far_setCells N2109 [.int .u32 0, .int .u32 0, .int .u32 0, .slice rq2105 0 cq2105, .int .i64 0] 0 w2107 H2113.out); have B2119 := Aside0.mk (below_setCells G2110 [.int .u32 0, .int .u32 0, .int .u32 0, .slice rq2105 0 cq2105, .int .i64 0] 0 w2107 B2111.out); clear H2114 H2112 H2113 B2111; generalize World.setCells w2107 g2106 0 [.int .u32 0, .int .u32 0, .int .u32 0, .slice rq2105 0 cq2105, .int .i64 0] = w2115 at H2117 H2118 H2116 B2119 ⊢) | ((with_reducible refine gate_store (t := 3) (p := _) rfl ?_); refine storeP_event rfl rfl rfl rfl rfl (storeVar_blk1 H2118.out 3 4 (.int .i64 999996) (by kernel_rfl) rfl (by simp) rfl) ?_; have H2121 := Aside0.mk (show (World.setCells w2115 g2090 4 [.int .i64 999996]).heap[g2090]? = some (.cells #[.int .u32 16777215, .int .u32 16777216, .int .u32 16777215, .slice none 0 0, .int .i64 999996] 72 (0, 0)) from blk_setCells [] [.int .i64 999996] [.int .i64 999998] [.int .u32 16777215, .int .u32 16777216, .int .u32 16777215, .slice none 0 0] w2115 rfl H2118.out); have H2122 := Aside0.mk (far_setCells N2092 [.int .i64 999996] 4 w2115 H2117.out); have B2123 := Aside0.mk (below_setCells G2093 [.int .i64 999996] 4 w2115 B2119.out); clear H2118 H2117 B2119; generalize World.setCells w2115 g2090 4 [.int .i64 999996] = w2120 at H2122 H2121 B2123 ⊢) | ((with_reducible refine gate_dst (N := 139) rfl ?_); refine loadG_event (T := 72) (by rfl) rfl rfl (run_loadVar_row _ _ _ _ _ (0, 0) _ H2121.out Try.underlying72 rfl (by kernel_rfl)) ?_))
      refine (Hgd.out w2120).mono ?_
      rintro e w2124 ⟨v0_, rfl, hR_, hb_⟩
      have B2125 := Aside0.mk (below_step B2123.out hb_)
      have H2126 := Aside0.mk (blk_below H2122.out hb_)
      have H2127 := Aside0.mk (blk_below H2121.out hb_)
      clear hb_ B2123 H2122 H2121
      obtain ⟨rq2128, cq2128, rfl, hle_, hC_⟩ := Kd.R_reads hR_
      clear hle_ hC_ hR_
      rw [show ([] : List Int).length = 0 from rfl]
      go_wp2_with (first | ((with_reducible refine gate_dst (N := 31) rfl ?_); refine box_event ?hg (N := 31) ?hd (cs := #[.int .u32 0, .int .u32 0, .int .u32 0, .slice none 0 0, .int .i64 0]) (t := 72) ?hr ?_; (case hd => rfl); (case hg => rfl); (case hr => first | (go_simp; done) | (go_simp; rfl)); intro g2129 hgg2129 w2130 hhg2129 hbg2129; have H2135 := Aside0.mk hhg2129; have N2131 : g2033 ≠ g2129 := Nat.ne_of_lt (Nat.lt_of_lt_of_eq (blk_lt H2126.out) hgg2129.symm); have G2132 : w.heap.size ≤ g2129 := Nat.le_trans B2125.out.size (Nat.le_of_eq hgg2129.symm); have B2133 := Aside0.mk (below_step B2125.out hbg2129); have H2134 := Aside0.mk (blk_below H2126.out hbg2129); clear hgg2129 hhg2129 hbg2129 B2125 H2126) | ((with_reducible refine gate_store (t := 72) (p := _) rfl ?_); refine storeN_event (T := 72) rfl rfl rfl rfl rfl (storeVar_blk H2135.out 72 0 [.int .u32 0, .int .u32 4294967295, .int .u32 0, .slice rq2128 0 cq2128, .int .i64 1000000] (by kernel_rfl) rfl (by simp)) ?_; have H2137 := Aside0.mk (show (World.setCells w2130 g2129 0 [.int .u32 0, .int .u32 4294967295, .int .u32 0, .slice rq2128 0 cq2128, .int .i64 1000000]).heap[g2129]? = some (.cells #[.int .u32 0, .int .u32 4294967295, .int .u32 0, .slice rq2128 0 cq2128, .int .i64 1000000] 72 (0, 0)) from blk_setCells [] [.int .u32 0, .int .u32 4294967295, .int .u32 0, .slice rq2128 0 cq2128, .int .i64 1000000] [.int .u32 0, .int .u32 0, .int .u32 0, .slice none 0 0, .int .i64 0] [] w2130 rfl H2135.out); have H2138 := Aside0.mk (far_setCells N2131 [.int .u32 0, .int .u32 4294967295, .int .u32 0, .slice rq2128 0 cq2128, .int .i64 1000000] 0 w2130 H2134.out); have B2139 := Aside0.mk (below_setCells G2132 [.int .u32 0, .int .u32 4294967295, .int .u32 0, .slice rq2128 0 cq2128, .int .i64 1000000] 0 w2130 B2133.out); clear H2135 H2134 B2133; generalize World.setCells w2130 g2129 0 [.int .u32 0, .int .u32 4294967295, .int .u32 0, .slice rq2128 0 cq2128, .int .i64 1000000] = w2136 at H2138 H2137 B2139 ⊢) | ((with_reducible refine gate_dst (N := 145) rfl ?_); refine Kd.R_make (Kd.int .u8) (w0 := w2136) _ 5 rfl (N := 145) rfl 30 _ _ rfl 20001 rfl rfl Try.underlying30 (.int .u8 0) 1 info5p rfl (by decide) (by decide) (0 : Int) (ok := fun _ => True) (okp := fun _ => True) rfl (fun _ h => h) trivial (by decide) (by decide) (Below.refl _ _) (Nat.le_refl _) ?_; intro v_ w2140 hO_ hb_ hg_ _; clear hg_; obtain ⟨gr, c_gr, rfl, hle_, hC_⟩ := row_formK (n := 20001) hO_ List.length_replicate (by decide); have B2141 := Aside0.mk (below_step B2139.out hb_); have H2142 := Aside0.mk (blk_below H2138.out hb_); have H2143 := Aside0.mk (blk_below H2137.out hb_); have R2144 := Aside0.mk (show Kd.C (Kd.int .u8) w2140 (some ⟨gr, 0, none⟩) 20001 (List.replicate 20001 (0 : Int)) from hC_); have L2145 := Aside0.mk hle_; clear hO_ hb_ hle_ hC_ B2139 H2138 H2137) | ((with_reducible refine gate_dst (N := 146) rfl ?_); refine lit_event ?hg (N := 146) ?hd (cs := #[.int .i64 (-1)]) (t := 3) (n := 1) ?hr ?_; (case hd => rfl); (case hg => rfl); (case hr => first | (go_simp; done) | (go_simp; rfl)); intro g2146 hgg2146 w2147 hhg2146 hbg2146; have H2156 := Aside0.mk hhg2146; have N2148 : g2033 ≠ g2146 := Nat.ne_of_lt (Nat.lt_of_lt_of_eq (blk_lt H2142.out) hgg2146.symm); have N2149 : g2129 ≠ g2146 := Nat.ne_of_lt (Nat.lt_of_lt_of_eq (blk_lt H2143.out) hgg2146.symm); have G2150 : w.heap.size ≤ g2146 := Nat.le_trans B2141.out.size (Nat.le_of_eq hgg2146.symm); have G2151 : w2140.heap.size ≤ g2146 := Nat.le_of_eq hgg2146.symm; have B2152 := Aside0.mk (below_step B2141.out hbg2146); have B2153 := Aside0.mk (hbg2146); have H2154 := Aside0.mk (blk_below H2142.out hbg2146); have H2155 := Aside0.mk (blk_below H2143.out hbg2146); clear hgg2146 hhg2146 hbg2146 B2141 H2142 H2143))
      refine (Hra.out w2147 (some ⟨gr, 0, none⟩) c_gr (some ⟨g2146, 0, none⟩) 1 (Kd.C_below R2144.out B2153.out) L2145.out (ints_at (l := [-1]) H2156.out (by decide)) (Nat.le_refl 1)).mono ?_
      rintro e w2157 ⟨v0_, rfl, hR_, hb_⟩
      have B2158 := Aside0.mk (below_step B2152.out hb_)
      have B2159 := Aside0.mk (below_step B2153.out hb_)
      have H2160 := Aside0.mk (blk_below H2154.out hb_)
      have H2161 := Aside0.mk (blk_below H2155.out hb_)
      have H2162 := Aside0.mk (blk_below H2156.out hb_)
      clear hb_ B2152 B2153 H2154 H2155 H2156
      obtain ⟨rq2163, cq2163, rfl, hle_, hC_⟩ := Kd.R_reads hR_
      clear hle_ hC_ hR_
      rw [show ([] : List Bool).length = 0 from rfl]
      go_wp2_with (first | ((with_reducible refine gate_dst (N := 151) rfl ?_); refine Kd.R_make (Kd.int .i64) (w0 := w2157) _ 3 rfl (N := 151) rfl 28 _ _ rfl 2001 rfl rfl Try.underlying28 (.int .i64 0) 8 (by kernel_rfl) rfl (by decide) (by decide) (0 : Int) (ok := fun _ => True) (okp := fun _ => True) rfl (fun _ h => h) trivial (by decide) (by decide) (Below.refl _ _) (Nat.le_refl _) ?_; intro v_ w2164 hO_ hb_ hg_ _; clear hg_; obtain ⟨gs, c_gs, rfl, hle_, hC_⟩ := row_formK (n := 2001) hO_ List.length_replicate (by decide); have B2165 := Aside0.mk (below_step B2158.out hb_); have H2166 := Aside0.mk (blk_below H2160.out hb_); have H2167 := Aside0.mk (blk_below H2161.out hb_); have R2168 := Aside0.mk (show Kd.C (Kd.int .i64) w2164 (some ⟨gs, 0, none⟩) 2001 (List.replicate 2001 (0 : Int)) from hC_); have L2169 := Aside0.mk hle_; clear hO_ hb_ hle_ hC_ B2158 H2160 H2161))
      refine (Hrb.out w2164 (some ⟨gs, 0, none⟩) c_gs (Kd.C_below R2168.out (Below.refl _ _)) L2169.out).mono ?_
      rintro e w2170 ⟨v0_, rfl, hR_, hb_⟩
      have B2171 := Aside0.mk (below_step B2165.out hb_)
      have B2172 := Aside0.mk (hb_)
      have H2173 := Aside0.mk (blk_below H2166.out hb_)
      have H2174 := Aside0.mk (blk_below H2167.out hb_)
      clear hb_ B2165 H2166 H2167
      obtain ⟨rq2175, cq2175, rfl, hle_, hC_⟩ := Kd.R_reads hR_
      clear hle_ hC_ hR_
      rw [show ([] : List Bool).length = 0 from rfl]
      go_wp2_with (first | ((with_reducible refine gate_dst (N := 156) rfl ?_); refine lit_event ?hg (N := 156) ?hd (cs := #[.int .i64 4096]) (t := 3) (n := 1) ?hr ?_; (case hd => rfl); (case hg => rfl); (case hr => first | (go_simp; done) | (go_simp; rfl)); intro g2176 hgg2176 w2177 hhg2176 hbg2176; have H2184 := Aside0.mk hhg2176; have N2178 : g2033 ≠ g2176 := Nat.ne_of_lt (Nat.lt_of_lt_of_eq (blk_lt H2173.out) hgg2176.symm); have N2179 : g2129 ≠ g2176 := Nat.ne_of_lt (Nat.lt_of_lt_of_eq (blk_lt H2174.out) hgg2176.symm); have G2180 : w.heap.size ≤ g2176 := Nat.le_trans B2171.out.size (Nat.le_of_eq hgg2176.symm); have B2181 := Aside0.mk (below_step B2171.out hbg2176); have H2182 := Aside0.mk (blk_below H2173.out hbg2176); have H2183 := Aside0.mk (blk_below H2174.out hbg2176); clear hgg2176 hhg2176 hbg2176 B2171 H2173 H2174))
      refine (Hrc.out w2177 (some ⟨g2176, 0, none⟩) 1 (ints_at (l := [4096]) H2184.out (by decide)) (Nat.le_refl 1)).mono ?_
      rintro e w2185 ⟨v0_, rfl, hR_, hb_⟩
      have B2186 := Aside0.mk (below_step B2181.out hb_)
      have H2187 := Aside0.mk (blk_below H2182.out hb_)
      have H2188 := Aside0.mk (blk_below H2183.out hb_)
      have H2189 := Aside0.mk (blk_below H2184.out hb_)
      clear hb_ B2181 H2182 H2183 H2184
      obtain ⟨rq2190, cq2190, rfl, hle_, hC_⟩ := Kd.R_reads hR_
      clear hle_ hC_ hR_
      rw [show ([] : List Bool).length = 0 from rfl]
      go_wp2_with fail
      refine (Hrd.out w2185).mono ?_
      rintro e w2191 ⟨v0_, rfl, hR_, hb_⟩
      have B2192 := Aside0.mk (below_step B2186.out hb_)
      have H2193 := Aside0.mk (blk_below H2187.out hb_)
      have H2194 := Aside0.mk (blk_below H2188.out hb_)
      clear hb_ B2186 H2187 H2188
      obtain ⟨rq2195, cq2195, rfl, hle_, hC_⟩ := Kd.R_reads hR_
      clear hle_ hC_ hR_
      rw [show ([] : List Bool).length = 0 from rfl]
      go_wp2_with fail
      refine (Hal.out w2191).mono ?_
      rintro e w2196 ⟨rfl, hb_⟩
      have B2197 := Aside0.mk (below_step B2192.out hb_)
      have H2198 := Aside0.mk (blk_below H2193.out hb_)
      have H2199 := Aside0.mk (blk_below H2194.out hb_)
      clear hb_ B2192 H2193 H2194
      have cg2033_2 := (blk_cell (i := 2) H2198.out).trans (show _ = some (.int .u32 16909060) from rfl)
      have cg2033_4 := (blk_cell (i := 4) H2198.out).trans (show _ = some (.int .i64 4) from rfl)
      have cg2129_4 := (blk_cell (i := 4) H2199.out).trans (show _ = some (.int .i64 1000000) from rfl)
      have cg2129_2 := (blk_cell (i := 2) H2199.out).trans (show _ = some (.int .u32 0) from rfl)
      go_wp2_with fail
      go_ret
      exact ⟨rfl, B2197.out⟩
end Go.Proofs.Ytgapkifgddjijaa.Hx
