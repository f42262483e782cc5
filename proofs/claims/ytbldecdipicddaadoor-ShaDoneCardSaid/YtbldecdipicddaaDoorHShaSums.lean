/- The walk of the law ShaSums. Written by wip/s1/mkshasums.py. -/
import Derived.Test.YtbldecdipicddaaDoorShaMath2
import Derived.Test.YtbldecdipicddaaDoorHEq
set_option linter.unusedSimpArgs false
set_option linter.unusedVariables false
namespace Go.Proofs.YtbldecdipicddaaDoor.Hand
open Go Go.RowKit Go.Proofs.YtbldecdipicddaaDoorW.PrintWords Go.Proofs.YtbldecdipicddaaDoorW.PrintLast Go.Proofs.YtbldecdipicddaaDoorW.PrintMore
set_option maxHeartbeats 800000 in
set_option maxRecDepth 100000 in
theorem sums_long (A : Option Addr) (c : Nat) (ll : List (List Int)) (w : World) (hlong : ∀ W : World, Below w.heap.size w W → Calls Tryd.prog 42 #[.slice A ll.length c] W fun e w' => e = .returned (.bool true) ∧ Below W.heap.size W w') :
    Calls Tryd.prog 8 #[.slice A ll.length c] w fun e w' => e = .returned (.bool true) ∧ Below w.heap.size w w' := by
  have HL := Aside0.mk hlong
  clear hlong
  go_enter Tryd.func8, Tryd.ntmps8
  go_wp2_with fail
  refine (HL.out w (Below.refl _ _)).mono ?_
  rintro e w1 ⟨rfl, hb_⟩
  have B2 := Aside0.mk (hb_)
  clear hb_
  go_wp2_with fail
  go_ret
  exact ⟨rfl, B2.out⟩
set_option maxHeartbeats 3200000 in
set_option maxRecDepth 100000 in
theorem sums_walk (A : Option Addr) (c : Nat) (ll : List (List Int)) (w : World) (all : List Int) (e0 e1 e2 e3 e4 e5 e6 e7 e8 e9 e10 e11 e12 e13 e14 e15 e16 e17 e18 e19 ee : Int) (hT : TabQ w) (hr : Kd.C (Kd.slice 5 (Kd.int .u8)) w A ll.length ll) (hc : ll.length ≤ c) (hlong : ∀ W : World, Below w.heap.size w W → Calls Tryd.prog 42 #[.slice A ll.length c] W fun e w' => e = .returned (.bool false) ∧ Below W.heap.size W w')
    (hwh : ∀ W : World, Below w.heap.size w W → Calls Tryd.prog 43 #[.slice A ll.length c] W fun e w' => ∃ v0_ : Value, e = .returned v0_ ∧ Kd.R (Kd.int .u8) 5 w' W.heap.size (fun _ => True) v0_ all ∧ Below W.heap.size W w')
    (hel : ∀ i, i < ll.length → ∃ d0 d1 d2 d3 d4 d5 d6 d7 d8 d9 d10 d11 d12 d13 d14 d15 d16 d17 d18 d19 en : Int, ∀ (W : World) (Ai : Option Addr) (ci : Nat), TabQ W → Kd.C (Kd.int .u8) W Ai (ll.getD i []).length (ll.getD i []) → (ll.getD i []).length ≤ ci → (Calls Tryd.prog 44 #[.slice Ai (ll.getD i []).length ci] W fun e w' => e = .returned (.tuple #[.agg #[.int .u8 d0, .int .u8 d1, .int .u8 d2, .int .u8 d3, .int .u8 d4, .int .u8 d5, .int .u8 d6, .int .u8 d7, .int .u8 d8, .int .u8 d9, .int .u8 d10, .int .u8 d11, .int .u8 d12, .int .u8 d13, .int .u8 d14, .int .u8 d15, .int .u8 d16, .int .u8 d17, .int .u8 d18, .int .u8 d19], .int .i64 en]) ∧ Below W.heap.size W w') ∧ (Calls Tryd.prog 45 #[.slice Ai (ll.getD i []).length ci] W fun e w' => e = .returned (.tuple #[.agg #[.int .u8 d0, .int .u8 d1, .int .u8 d2, .int .u8 d3, .int .u8 d4, .int .u8 d5, .int .u8 d6, .int .u8 d7, .int .u8 d8, .int .u8 d9, .int .u8 d10, .int .u8 d11, .int .u8 d12, .int .u8 d13, .int .u8 d14, .int .u8 d15, .int .u8 d16, .int .u8 d17, .int .u8 d18, .int .u8 d19], .int .i64 en]) ∧ Below W.heap.size W w'))
    (hp1 : ∀ W : World, TabQ W → Below w.heap.size w W → Calls Tryd.prog 46 #[.slice A ll.length c] W fun e w' => e = .returned (.tuple #[.agg #[.int .u8 e0, .int .u8 e1, .int .u8 e2, .int .u8 e3, .int .u8 e4, .int .u8 e5, .int .u8 e6, .int .u8 e7, .int .u8 e8, .int .u8 e9, .int .u8 e10, .int .u8 e11, .int .u8 e12, .int .u8 e13, .int .u8 e14, .int .u8 e15, .int .u8 e16, .int .u8 e17, .int .u8 e18, .int .u8 e19], .int .i64 ee]) ∧ Below W.heap.size W w') (hp2 : ∀ W : World, TabQ W → Below w.heap.size w W → Calls Tryd.prog 47 #[.slice A ll.length c] W fun e w' => e = .returned (.tuple #[.agg #[.int .u8 e0, .int .u8 e1, .int .u8 e2, .int .u8 e3, .int .u8 e4, .int .u8 e5, .int .u8 e6, .int .u8 e7, .int .u8 e8, .int .u8 e9, .int .u8 e10, .int .u8 e11, .int .u8 e12, .int .u8 e13, .int .u8 e14, .int .u8 e15, .int .u8 e16, .int .u8 e17, .int .u8 e18, .int .u8 e19], .int .i64 ee]) ∧ Below W.heap.size W w')
    (hsm : ∀ (W : World) (A1 A2 : Option Addr) (c1 c2 : Nat), Kd.C (Kd.int .u8) W A1 all.length all → all.length ≤ c1 → Kd.C (Kd.int .u8) W A2 all.length all → all.length ≤ c2 → Calls Tryd.prog 32 #[.slice A1 all.length c1, .slice A2 all.length c2] W fun e w' => e = .returned (.bool true) ∧ Below W.heap.size W w') :
    Calls Tryd.prog 8 #[.slice A ll.length c] w fun e w' => e = .returned (.bool true) ∧ Below w.heap.size w w' := by
  have HhT := Aside0.mk hT
  have Hhr := Aside0.mk hr
  have Hhc := Aside0.mk hc
  have Hhlong := Aside0.mk hlong
  have Hhwh := Aside0.mk hwh
  have Hhel := Aside0.mk hel
  have Hhp1 := Aside0.mk hp1
  have Hhp2 := Aside0.mk hp2
  have Hhsm := Aside0.mk hsm
  have hn := hr.2.1
  clear hT hr hc hlong hwh hel hp1 hp2 hsm
  go_enter Tryd.func8, Tryd.ntmps8
  go_wp2_with fail
  refine (Hhlong.out w (Below.refl _ _)).mono ?_
  rintro e w1 ⟨rfl, hb_⟩
  have B2 := Aside0.mk (hb_)
  clear hb_
  go_wp2_with fail
  refine (Hhwh.out w1 B2.out).mono ?_
  rintro e w3 ⟨v_, rfl, hR_, hb_⟩
  have B4 := Aside0.mk (below_step B2.out hb_)
  clear hb_ B2
  obtain ⟨ra, ca, rfl, hle_, hC_⟩ := Kd.R_reads hR_
  have RA := Aside0.mk hC_
  have LA := Aside0.mk hle_
  clear hC_ hle_ hR_
  go_wp2_with fail
  go_loopg [4] ll.length (fun n v4 w' => ∃ (i : Nat), v4 = .int .i64 (i : Int) ∧ Aside0 (i + n = ll.length) ∧ Aside0 (Below w.heap.size w w') ∧ Aside0 (Below w3.heap.size w3 w'))
  case atStart => exact ⟨0, rfl, ⟨by omega⟩, B4, ⟨Below.refl _ _⟩⟩
  case round =>
    clear B4
    obtain ⟨i, rfl, HK, BB, BA⟩ := hrel
    by_cases hk : i < ll.length
    · obtain ⟨go, rfl⟩ : ∃ j, gk = j + 1 := ⟨gk - 1, by have := HK.out; omega⟩
      have hi1 : ((i : Int) < ((ll.length : Nat) : Int)) = True := eq_true (by omega)
      have hi2 : (i < ll.length) = True := eq_true hk
      have HI := Aside0.mk hk
      obtain ⟨ad, rfl, hx_⟩ : ∃ ad, A = some ad ∧ True := by obtain ⟨ad, e, _⟩ := Hhr.out.2.2 (by omega); exact ⟨ad, e, trivial⟩
      clear hx_ hk
      obtain ⟨d0, d1, d2, d3, d4, d5, d6, d7, d8, d9, d10, d11, d12, d13, d14, d15, d16, d17, d18, d19, en, HE⟩ := Hhel.out i HI.out
      have HG := Aside0.mk (fun (W : World) (h : Below w.heap.size w W) => rows_get (Kd.C_below Hhr.out h) i HI.out)
      have HEL := Aside0.mk HE
      clear HE
      obtain ⟨x, hx⟩ : ∃ x : List Int, x = ll.getD i [] := ⟨_, rfl⟩
      rw [← hx] at HG HEL
      clear hx
      obtain ⟨Ai, ci, hcell, hle_, hC_⟩ := HG.out _ BB.out
      have HC1 := Aside0.mk hC_
      have HL1 := Aside0.mk hle_
      clear hC_ hle_
      go_wp2_with fail
      refine ((HEL.out wr Ai ci (HhT.out.at BB.out) HC1.out HL1.out).1).mono ?_
      rintro e w101 ⟨rfl, hb_⟩
      have B102 := Aside0.mk (below_step BB.out hb_)
      have B103 := Aside0.mk (below_step BA.out hb_)
      clear hb_ BB BA
      clear hcell HC1 HL1
      go_wp2_with (first | ((with_reducible refine gate_dst (N := 5) rfl ?_); refine box_event ?hg (N := 5) ?hd (cs := #[.int .u8 0, .int .u8 0, .int .u8 0, .int .u8 0, .int .u8 0, .int .u8 0, .int .u8 0, .int .u8 0, .int .u8 0, .int .u8 0, .int .u8 0, .int .u8 0, .int .u8 0, .int .u8 0, .int .u8 0, .int .u8 0, .int .u8 0, .int .u8 0, .int .u8 0, .int .u8 0]) (t := 23) ?hr ?_; (case hd => rfl); (case hg => rfl); (case hr => first | (go_simp; done) | (go_simp; rfl)); intro g104 hgg104 w105 hhg104 hbg104; have H110 := Aside0.mk hhg104; have G106 : w.heap.size ≤ g104 := Nat.le_trans B102.out.size (Nat.le_of_eq hgg104.symm); have G107 : w3.heap.size ≤ g104 := Nat.le_trans B103.out.size (Nat.le_of_eq hgg104.symm); have B108 := Aside0.mk (below_step B102.out hbg104); have B109 := Aside0.mk (below_step B103.out hbg104); clear hgg104 hhg104 hbg104 B102 B103) | ((with_reducible refine gate_store (t := 23) (p := _) rfl ?_); refine storeN_event (T := 23) rfl rfl rfl rfl rfl (storeVar_blk H110.out 23 0 [.int .u8 d0, .int .u8 d1, .int .u8 d2, .int .u8 d3, .int .u8 d4, .int .u8 d5, .int .u8 d6, .int .u8 d7, .int .u8 d8, .int .u8 d9, .int .u8 d10, .int .u8 d11, .int .u8 d12, .int .u8 d13, .int .u8 d14, .int .u8 d15, .int .u8 d16, .int .u8 d17, .int .u8 d18, .int .u8 d19] (by kernel_rfl) rfl (by simp)) ?_; have H112 := Aside0.mk (show (World.setCells w105 g104 0 [.int .u8 d0, .int .u8 d1, .int .u8 d2, .int .u8 d3, .int .u8 d4, .int .u8 d5, .int .u8 d6, .int .u8 d7, .int .u8 d8, .int .u8 d9, .int .u8 d10, .int .u8 d11, .int .u8 d12, .int .u8 d13, .int .u8 d14, .int .u8 d15, .int .u8 d16, .int .u8 d17, .int .u8 d18, .int .u8 d19]).heap[g104]? = some (.cells #[.int .u8 d0, .int .u8 d1, .int .u8 d2, .int .u8 d3, .int .u8 d4, .int .u8 d5, .int .u8 d6, .int .u8 d7, .int .u8 d8, .int .u8 d9, .int .u8 d10, .int .u8 d11, .int .u8 d12, .int .u8 d13, .int .u8 d14, .int .u8 d15, .int .u8 d16, .int .u8 d17, .int .u8 d18, .int .u8 d19] 23 (0, 0)) from blk_setCells [] [.int .u8 d0, .int .u8 d1, .int .u8 d2, .int .u8 d3, .int .u8 d4, .int .u8 d5, .int .u8 d6, .int .u8 d7, .int .u8 d8, .int .u8 d9, .int .u8 d10, .int .u8 d11, .int .u8 d12, .int .u8 d13, .int .u8 d14, .int .u8 d15, .int .u8 d16, .int .u8 d17, .int .u8 d18, .int .u8 d19] [.int .u8 0, .int .u8 0, .int .u8 0, .int .u8 0, .int .u8 0, .int .u8 0, .int .u8 0, .int .u8 0, .int .u8 0, .int .u8 0, .int .u8 0, .int .u8 0, .int .u8 0, .int .u8 0, .int .u8 0, .int .u8 0, .int .u8 0, .int .u8 0, .int .u8 0, .int .u8 0] [] w105 rfl H110.out); have B113 := Aside0.mk (below_setCells G106 [.int .u8 d0, .int .u8 d1, .int .u8 d2, .int .u8 d3, .int .u8 d4, .int .u8 d5, .int .u8 d6, .int .u8 d7, .int .u8 d8, .int .u8 d9, .int .u8 d10, .int .u8 d11, .int .u8 d12, .int .u8 d13, .int .u8 d14, .int .u8 d15, .int .u8 d16, .int .u8 d17, .int .u8 d18, .int .u8 d19] 0 w105 B108.out); have B114 := Aside0.mk (below_setCells G107 [.int .u8 d0, .int .u8 d1, .int .u8 d2, .int .u8 d3, .int .u8 d4, .int .u8 d5, .int .u8 d6, .int .u8 d7, .int .u8 d8, .int .u8 d9, .int .u8 d10, .int .u8 d11, .int .u8 d12, .int .u8 d13, .int .u8 d14, .int .u8 d15, .int .u8 d16, .int .u8 d17, .int .u8 d18, .int .u8 d19] 0 w105 B109.out); clear H110 B108 B109; generalize World.setCells w105 g104 0 [.int .u8 d0, .int .u8 d1, .int .u8 d2, .int .u8 d3, .int .u8 d4, .int .u8 d5, .int .u8 d6, .int .u8 d7, .int .u8 d8, .int .u8 d9, .int .u8 d10, .int .u8 d11, .int .u8 d12, .int .u8 d13, .int .u8 d14, .int .u8 d15, .int .u8 d16, .int .u8 d17, .int .u8 d18, .int .u8 d19] = w111 at H112 B113 B114 ⊢; obtain ⟨Aj, cj, hcell, hle_, hC_⟩ := HG.out _ B113.out; have HC1 := Aside0.mk hC_; have HL1 := Aside0.mk hle_; clear hC_ hle_))
      refine ((HEL.out w111 Aj cj (HhT.out.at B113.out) HC1.out HL1.out).2).mono ?_
      rintro e w115 ⟨rfl, hb_⟩
      have B116 := Aside0.mk (below_step B113.out hb_)
      have B117 := Aside0.mk (below_step B114.out hb_)
      have H118 := Aside0.mk (blk_below H112.out hb_)
      clear hb_ B113 B114 H112
      clear hcell HC1 HL1
      have hqp := fun (d : Nat) (W : World) => eqA23 d W d0 d0 d1 d1 d2 d2 d3 d3 d4 d4 d5 d5 d6 d6 d7 d7 d8 d8 d9 d9 d10 d10 d11 d11 d12 d12 d13 d13 d14 d14 d15 d15 d16 d16 d17 d17 d18 d18 d19 d19
      simp only [beq_self_eq_true, Bool.and_self] at hqp
      go_wp2_with (first | ((with_reducible refine gate_dst (N := 7) rfl ?_); refine box_event ?hg (N := 7) ?hd (cs := #[.int .u8 0, .int .u8 0, .int .u8 0, .int .u8 0, .int .u8 0, .int .u8 0, .int .u8 0, .int .u8 0, .int .u8 0, .int .u8 0, .int .u8 0, .int .u8 0, .int .u8 0, .int .u8 0, .int .u8 0, .int .u8 0, .int .u8 0, .int .u8 0, .int .u8 0, .int .u8 0]) (t := 23) ?hr ?_; (case hd => rfl); (case hg => rfl); (case hr => first | (go_simp; done) | (go_simp; rfl)); intro g119 hgg119 w120 hhg119 hbg119; have H127 := Aside0.mk hhg119; have N121 : g104 ≠ g119 := Nat.ne_of_lt (Nat.lt_of_lt_of_eq (blk_lt H118.out) hgg119.symm); have G122 : w.heap.size ≤ g119 := Nat.le_trans B116.out.size (Nat.le_of_eq hgg119.symm); have G123 : w3.heap.size ≤ g119 := Nat.le_trans B117.out.size (Nat.le_of_eq hgg119.symm); have B124 := Aside0.mk (below_step B116.out hbg119); have B125 := Aside0.mk (below_step B117.out hbg119); have H126 := Aside0.mk (blk_below H118.out hbg119); clear hgg119 hhg119 hbg119 B116 B117 H118) | ((with_reducible refine gate_store (t := 23) (p := _) rfl ?_); refine storeN_event (T := 23) rfl rfl rfl rfl rfl (storeVar_blk H127.out 23 0 [.int .u8 d0, .int .u8 d1, .int .u8 d2, .int .u8 d3, .int .u8 d4, .int .u8 d5, .int .u8 d6, .int .u8 d7, .int .u8 d8, .int .u8 d9, .int .u8 d10, .int .u8 d11, .int .u8 d12, .int .u8 d13, .int .u8 d14, .int .u8 d15, .int .u8 d16, .int .u8 d17, .int .u8 d18, .int .u8 d19] (by kernel_rfl) rfl (by simp)) ?_; have H129 := Aside0.mk (show (World.setCells w120 g119 0 [.int .u8 d0, .int .u8 d1, .int .u8 d2, .int .u8 d3, .int .u8 d4, .int .u8 d5, .int .u8 d6, .int .u8 d7, .int .u8 d8, .int .u8 d9, .int .u8 d10, .int .u8 d11, .int .u8 d12, .int .u8 d13, .int .u8 d14, .int .u8 d15, .int .u8 d16, .int .u8 d17, .int .u8 d18, .int .u8 d19]).heap[g119]? = some (.cells #[.int .u8 d0, .int .u8 d1, .int .u8 d2, .int .u8 d3, .int .u8 d4, .int .u8 d5, .int .u8 d6, .int .u8 d7, .int .u8 d8, .int .u8 d9, .int .u8 d10, .int .u8 d11, .int .u8 d12, .int .u8 d13, .int .u8 d14, .int .u8 d15, .int .u8 d16, .int .u8 d17, .int .u8 d18, .int .u8 d19] 23 (0, 0)) from blk_setCells [] [.int .u8 d0, .int .u8 d1, .int .u8 d2, .int .u8 d3, .int .u8 d4, .int .u8 d5, .int .u8 d6, .int .u8 d7, .int .u8 d8, .int .u8 d9, .int .u8 d10, .int .u8 d11, .int .u8 d12, .int .u8 d13, .int .u8 d14, .int .u8 d15, .int .u8 d16, .int .u8 d17, .int .u8 d18, .int .u8 d19] [.int .u8 0, .int .u8 0, .int .u8 0, .int .u8 0, .int .u8 0, .int .u8 0, .int .u8 0, .int .u8 0, .int .u8 0, .int .u8 0, .int .u8 0, .int .u8 0, .int .u8 0, .int .u8 0, .int .u8 0, .int .u8 0, .int .u8 0, .int .u8 0, .int .u8 0, .int .u8 0] [] w120 rfl H127.out); have H130 := Aside0.mk (far_setCells N121 [.int .u8 d0, .int .u8 d1, .int .u8 d2, .int .u8 d3, .int .u8 d4, .int .u8 d5, .int .u8 d6, .int .u8 d7, .int .u8 d8, .int .u8 d9, .int .u8 d10, .int .u8 d11, .int .u8 d12, .int .u8 d13, .int .u8 d14, .int .u8 d15, .int .u8 d16, .int .u8 d17, .int .u8 d18, .int .u8 d19] 0 w120 H126.out); have B131 := Aside0.mk (below_setCells G122 [.int .u8 d0, .int .u8 d1, .int .u8 d2, .int .u8 d3, .int .u8 d4, .int .u8 d5, .int .u8 d6, .int .u8 d7, .int .u8 d8, .int .u8 d9, .int .u8 d10, .int .u8 d11, .int .u8 d12, .int .u8 d13, .int .u8 d14, .int .u8 d15, .int .u8 d16, .int .u8 d17, .int .u8 d18, .int .u8 d19] 0 w120 B124.out); have B132 := Aside0.mk (below_setCells G123 [.int .u8 d0, .int .u8 d1, .int .u8 d2, .int .u8 d3, .int .u8 d4, .int .u8 d5, .int .u8 d6, .int .u8 d7, .int .u8 d8, .int .u8 d9, .int .u8 d10, .int .u8 d11, .int .u8 d12, .int .u8 d13, .int .u8 d14, .int .u8 d15, .int .u8 d16, .int .u8 d17, .int .u8 d18, .int .u8 d19] 0 w120 B125.out); clear H127 H126 B124 B125; generalize World.setCells w120 g119 0 [.int .u8 d0, .int .u8 d1, .int .u8 d2, .int .u8 d3, .int .u8 d4, .int .u8 d5, .int .u8 d6, .int .u8 d7, .int .u8 d8, .int .u8 d9, .int .u8 d10, .int .u8 d11, .int .u8 d12, .int .u8 d13, .int .u8 d14, .int .u8 d15, .int .u8 d16, .int .u8 d17, .int .u8 d18, .int .u8 d19] = w128 at H130 H129 B131 B132 ⊢) | ((with_reducible refine gate_dst (N := 39) rfl ?_); refine loadG_event (T := 23) (by rfl) rfl rfl (run_loadVar_row _ _ _ _ _ (0, 0) _ H130.out Tryd.underlying23 rfl (by kernel_rfl)) ?_) | ((with_reducible refine gate_dst (N := 40) rfl ?_); refine loadG_event (T := 23) (by rfl) rfl rfl (run_loadVar_row _ _ _ _ _ (0, 0) _ H129.out Tryd.underlying23 rfl (by kernel_rfl)) ?_))
      clear hqp
      go_roundg go
      case measure => have := HK.out; omega
      case rel => exact ⟨i + 1, (by rw [show wrap64 ((i : Int) + 1) = ((i + 1 : Nat) : Int) by (have := HI.out; unfold wrap64; omega)]), ⟨by have := HK.out; omega⟩, B131, B132⟩
    · obtain rfl : i = ll.length := by have := HK.out; omega
      have hi1 : (((ll.length : Nat) : Int) < ((ll.length : Nat) : Int)) = False := eq_false (by omega)
      go_wp2_with fail
      refine (Hhp1.out wr (HhT.out.at BB.out) BB.out).mono ?_
      rintro e w201 ⟨rfl, hb_⟩
      have B202 := Aside0.mk (below_step BB.out hb_)
      have B203 := Aside0.mk (below_step BA.out hb_)
      clear hb_ BB BA
      go_wp2_with (first | ((with_reducible refine gate_dst (N := 9) rfl ?_); refine box_event ?hg (N := 9) ?hd (cs := #[.int .u8 0, .int .u8 0, .int .u8 0, .int .u8 0, .int .u8 0, .int .u8 0, .int .u8 0, .int .u8 0, .int .u8 0, .int .u8 0, .int .u8 0, .int .u8 0, .int .u8 0, .int .u8 0, .int .u8 0, .int .u8 0, .int .u8 0, .int .u8 0, .int .u8 0, .int .u8 0]) (t := 23) ?hr ?_; (case hd => rfl); (case hg => rfl); (case hr => first | (go_simp; done) | (go_simp; rfl)); intro g204 hgg204 w205 hhg204 hbg204; have H210 := Aside0.mk hhg204; have G206 : w.heap.size ≤ g204 := Nat.le_trans B202.out.size (Nat.le_of_eq hgg204.symm); have G207 : w3.heap.size ≤ g204 := Nat.le_trans B203.out.size (Nat.le_of_eq hgg204.symm); have B208 := Aside0.mk (below_step B202.out hbg204); have B209 := Aside0.mk (below_step B203.out hbg204); clear hgg204 hhg204 hbg204 B202 B203) | ((with_reducible refine gate_store (t := 23) (p := _) rfl ?_); refine storeN_event (T := 23) rfl rfl rfl rfl rfl (storeVar_blk H210.out 23 0 [.int .u8 e0, .int .u8 e1, .int .u8 e2, .int .u8 e3, .int .u8 e4, .int .u8 e5, .int .u8 e6, .int .u8 e7, .int .u8 e8, .int .u8 e9, .int .u8 e10, .int .u8 e11, .int .u8 e12, .int .u8 e13, .int .u8 e14, .int .u8 e15, .int .u8 e16, .int .u8 e17, .int .u8 e18, .int .u8 e19] (by kernel_rfl) rfl (by simp)) ?_; have H212 := Aside0.mk (show (World.setCells w205 g204 0 [.int .u8 e0, .int .u8 e1, .int .u8 e2, .int .u8 e3, .int .u8 e4, .int .u8 e5, .int .u8 e6, .int .u8 e7, .int .u8 e8, .int .u8 e9, .int .u8 e10, .int .u8 e11, .int .u8 e12, .int .u8 e13, .int .u8 e14, .int .u8 e15, .int .u8 e16, .int .u8 e17, .int .u8 e18, .int .u8 e19]).heap[g204]? = some (.cells #[.int .u8 e0, .int .u8 e1, .int .u8 e2, .int .u8 e3, .int .u8 e4, .int .u8 e5, .int .u8 e6, .int .u8 e7, .int .u8 e8, .int .u8 e9, .int .u8 e10, .int .u8 e11, .int .u8 e12, .int .u8 e13, .int .u8 e14, .int .u8 e15, .int .u8 e16, .int .u8 e17, .int .u8 e18, .int .u8 e19] 23 (0, 0)) from blk_setCells [] [.int .u8 e0, .int .u8 e1, .int .u8 e2, .int .u8 e3, .int .u8 e4, .int .u8 e5, .int .u8 e6, .int .u8 e7, .int .u8 e8, .int .u8 e9, .int .u8 e10, .int .u8 e11, .int .u8 e12, .int .u8 e13, .int .u8 e14, .int .u8 e15, .int .u8 e16, .int .u8 e17, .int .u8 e18, .int .u8 e19] [.int .u8 0, .int .u8 0, .int .u8 0, .int .u8 0, .int .u8 0, .int .u8 0, .int .u8 0, .int .u8 0, .int .u8 0, .int .u8 0, .int .u8 0, .int .u8 0, .int .u8 0, .int .u8 0, .int .u8 0, .int .u8 0, .int .u8 0, .int .u8 0, .int .u8 0, .int .u8 0] [] w205 rfl H210.out); have B213 := Aside0.mk (below_setCells G206 [.int .u8 e0, .int .u8 e1, .int .u8 e2, .int .u8 e3, .int .u8 e4, .int .u8 e5, .int .u8 e6, .int .u8 e7, .int .u8 e8, .int .u8 e9, .int .u8 e10, .int .u8 e11, .int .u8 e12, .int .u8 e13, .int .u8 e14, .int .u8 e15, .int .u8 e16, .int .u8 e17, .int .u8 e18, .int .u8 e19] 0 w205 B208.out); have B214 := Aside0.mk (below_setCells G207 [.int .u8 e0, .int .u8 e1, .int .u8 e2, .int .u8 e3, .int .u8 e4, .int .u8 e5, .int .u8 e6, .int .u8 e7, .int .u8 e8, .int .u8 e9, .int .u8 e10, .int .u8 e11, .int .u8 e12, .int .u8 e13, .int .u8 e14, .int .u8 e15, .int .u8 e16, .int .u8 e17, .int .u8 e18, .int .u8 e19] 0 w205 B209.out); clear H210 B208 B209; generalize World.setCells w205 g204 0 [.int .u8 e0, .int .u8 e1, .int .u8 e2, .int .u8 e3, .int .u8 e4, .int .u8 e5, .int .u8 e6, .int .u8 e7, .int .u8 e8, .int .u8 e9, .int .u8 e10, .int .u8 e11, .int .u8 e12, .int .u8 e13, .int .u8 e14, .int .u8 e15, .int .u8 e16, .int .u8 e17, .int .u8 e18, .int .u8 e19] = w211 at H212 B213 B214 ⊢))
      refine (Hhp2.out w211 (HhT.out.at B213.out) B213.out).mono ?_
      rintro e w215 ⟨rfl, hb_⟩
      have B216 := Aside0.mk (below_step B213.out hb_)
      have B217 := Aside0.mk (below_step B214.out hb_)
      have H218 := Aside0.mk (blk_below H212.out hb_)
      clear hb_ B213 B214 H212
      have hqp := fun (d : Nat) (W : World) => eqA23 d W e0 e0 e1 e1 e2 e2 e3 e3 e4 e4 e5 e5 e6 e6 e7 e7 e8 e8 e9 e9 e10 e10 e11 e11 e12 e12 e13 e13 e14 e14 e15 e15 e16 e16 e17 e17 e18 e18 e19 e19
      simp only [beq_self_eq_true, Bool.and_self] at hqp
      go_wp2_with (first | ((with_reducible refine gate_dst (N := 11) rfl ?_); refine box_event ?hg (N := 11) ?hd (cs := #[.int .u8 0, .int .u8 0, .int .u8 0, .int .u8 0, .int .u8 0, .int .u8 0, .int .u8 0, .int .u8 0, .int .u8 0, .int .u8 0, .int .u8 0, .int .u8 0, .int .u8 0, .int .u8 0, .int .u8 0, .int .u8 0, .int .u8 0, .int .u8 0, .int .u8 0, .int .u8 0]) (t := 23) ?hr ?_; (case hd => rfl); (case hg => rfl); (case hr => first | (go_simp; done) | (go_simp; rfl)); intro g219 hgg219 w220 hhg219 hbg219; have H227 := Aside0.mk hhg219; have N221 : g204 ≠ g219 := Nat.ne_of_lt (Nat.lt_of_lt_of_eq (blk_lt H218.out) hgg219.symm); have G222 : w.heap.size ≤ g219 := Nat.le_trans B216.out.size (Nat.le_of_eq hgg219.symm); have G223 : w3.heap.size ≤ g219 := Nat.le_trans B217.out.size (Nat.le_of_eq hgg219.symm); have B224 := Aside0.mk (below_step B216.out hbg219); have B225 := Aside0.mk (below_step B217.out hbg219); have H226 := Aside0.mk (blk_below H218.out hbg219); clear hgg219 hhg219 hbg219 B216 B217 H218) | ((with_reducible refine gate_store (t := 23) (p := _) rfl ?_); refine storeN_event (T := 23) rfl rfl rfl rfl rfl (storeVar_blk H227.out 23 0 [.int .u8 e0, .int .u8 e1, .int .u8 e2, .int .u8 e3, .int .u8 e4, .int .u8 e5, .int .u8 e6, .int .u8 e7, .int .u8 e8, .int .u8 e9, .int .u8 e10, .int .u8 e11, .int .u8 e12, .int .u8 e13, .int .u8 e14, .int .u8 e15, .int .u8 e16, .int .u8 e17, .int .u8 e18, .int .u8 e19] (by kernel_rfl) rfl (by simp)) ?_; have H229 := Aside0.mk (show (World.setCells w220 g219 0 [.int .u8 e0, .int .u8 e1, .int .u8 e2, .int .u8 e3, .int .u8 e4, .int .u8 e5, .int .u8 e6, .int .u8 e7, .int .u8 e8, .int .u8 e9, .int .u8 e10, .int .u8 e11, .int .u8 e12, .int .u8 e13, .int .u8 e14, .int .u8 e15, .int .u8 e16, .int .u8 e17, .int .u8 e18, .int .u8 e19]).heap[g219]? = some (.cells #[.int .u8 e0, .int .u8 e1, .int .u8 e2, .int .u8 e3, .int .u8 e4, .int .u8 e5, .int .u8 e6, .int .u8 e7, .int .u8 e8, .int .u8 e9, .int .u8 e10, .int .u8 e11, .int .u8 e12, .int .u8 e13, .int .u8 e14, .int .u8 e15, .int .u8 e16, .int .u8 e17, .int .u8 e18, .int .u8 e19] 23 (0, 0)) from blk_setCells [] [.int .u8 e0, .int .u8 e1, .int .u8 e2, .int .u8 e3, .int .u8 e4, .int .u8 e5, .int .u8 e6, .int .u8 e7, .int .u8 e8, .int .u8 e9, .int .u8 e10, .int .u8 e11, .int .u8 e12, .int .u8 e13, .int .u8 e14, .int .u8 e15, .int .u8 e16, .int .u8 e17, .int .u8 e18, .int .u8 e19] [.int .u8 0, .int .u8 0, .int .u8 0, .int .u8 0, .int .u8 0, .int .u8 0, .int .u8 0, .int .u8 0, .int .u8 0, .int .u8 0, .int .u8 0, .int .u8 0, .int .u8 0, .int .u8 0, .int .u8 0, .int .u8 0, .int .u8 0, .int .u8 0, .int .u8 0, .int .u8 0] [] w220 rfl H227.out); have H230 := Aside0.mk (far_setCells N221 [.int .u8 e0, .int .u8 e1, .int .u8 e2, .int .u8 e3, .int .u8 e4, .int .u8 e5, .int .u8 e6, .int .u8 e7, .int .u8 e8, .int .u8 e9, .int .u8 e10, .int .u8 e11, .int .u8 e12, .int .u8 e13, .int .u8 e14, .int .u8 e15, .int .u8 e16, .int .u8 e17, .int .u8 e18, .int .u8 e19] 0 w220 H226.out); have B231 := Aside0.mk (below_setCells G222 [.int .u8 e0, .int .u8 e1, .int .u8 e2, .int .u8 e3, .int .u8 e4, .int .u8 e5, .int .u8 e6, .int .u8 e7, .int .u8 e8, .int .u8 e9, .int .u8 e10, .int .u8 e11, .int .u8 e12, .int .u8 e13, .int .u8 e14, .int .u8 e15, .int .u8 e16, .int .u8 e17, .int .u8 e18, .int .u8 e19] 0 w220 B224.out); have B232 := Aside0.mk (below_setCells G223 [.int .u8 e0, .int .u8 e1, .int .u8 e2, .int .u8 e3, .int .u8 e4, .int .u8 e5, .int .u8 e6, .int .u8 e7, .int .u8 e8, .int .u8 e9, .int .u8 e10, .int .u8 e11, .int .u8 e12, .int .u8 e13, .int .u8 e14, .int .u8 e15, .int .u8 e16, .int .u8 e17, .int .u8 e18, .int .u8 e19] 0 w220 B225.out); clear H227 H226 B224 B225; generalize World.setCells w220 g219 0 [.int .u8 e0, .int .u8 e1, .int .u8 e2, .int .u8 e3, .int .u8 e4, .int .u8 e5, .int .u8 e6, .int .u8 e7, .int .u8 e8, .int .u8 e9, .int .u8 e10, .int .u8 e11, .int .u8 e12, .int .u8 e13, .int .u8 e14, .int .u8 e15, .int .u8 e16, .int .u8 e17, .int .u8 e18, .int .u8 e19] = w228 at H230 H229 B231 B232 ⊢) | ((with_reducible refine gate_dst (N := 57) rfl ?_); refine loadG_event (T := 23) (by rfl) rfl rfl (run_loadVar_row _ _ _ _ _ (0, 0) _ H230.out Tryd.underlying23 rfl (by kernel_rfl)) ?_) | ((with_reducible refine gate_dst (N := 58) rfl ?_); refine loadG_event (T := 23) (by rfl) rfl rfl (run_loadVar_row _ _ _ _ _ (0, 0) _ H229.out Tryd.underlying23 rfl (by kernel_rfl)) ?_))
      refine (Hhwh.out w228 B231.out).mono ?_
      rintro e w233 ⟨v_, rfl, hR_, hb_⟩
      have B234 := Aside0.mk (below_step B231.out hb_)
      have B235 := Aside0.mk (below_step B232.out hb_)
      have H236 := Aside0.mk (blk_below H230.out hb_)
      have H237 := Aside0.mk (blk_below H229.out hb_)
      clear hb_ B231 B232 H230 H229
      obtain ⟨rb, cb, rfl, hle_, hC_⟩ := Kd.R_reads hR_
      have RB := Aside0.mk hC_
      have LB := Aside0.mk hle_
      clear hC_ hle_ hR_
      go_wp2_with fail
      refine (Hhsm.out w233 rb ra cb ca RB.out LB.out (Kd.C_below RA.out B235.out) LA.out).mono ?_
      rintro e w238 ⟨rfl, hb_⟩
      have B239 := Aside0.mk (below_step B234.out hb_)
      have B240 := Aside0.mk (below_step B235.out hb_)
      have H241 := Aside0.mk (blk_below H236.out hb_)
      have H242 := Aside0.mk (blk_below H237.out hb_)
      clear hb_ B234 B235 H236 H237
      go_wp2_with fail
      go_ret
      exact ⟨rfl, B239.out⟩
end Go.Proofs.YtbldecdipicddaaDoor.Hand
