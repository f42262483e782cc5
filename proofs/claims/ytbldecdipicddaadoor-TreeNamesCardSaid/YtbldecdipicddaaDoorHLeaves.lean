/- tree.leaves, and tree.Root by what it calls. Written by wip/s1/mkleaves.py. -/
import Derived.Test.YtbldecdipicddaaDoorDgApp
set_option linter.unusedSimpArgs false
set_option linter.unusedVariables false
namespace Go.Proofs.YtbldecdipicddaaDoor.Hand
open Go Go.RowKit Go.Proofs.YtbldecdipicddaaDoorW.PrintWords Go.Proofs.YtbldecdipicddaaDoorW.PrintLast
/-- Is a string too long for a leaf? -/
def long (l : List Int) : Bool := decide (10000 < l.length)
set_option maxHeartbeats 1600000 in
set_option maxRecDepth 100000 in
theorem long_walk (A : Option Addr) (c : Nat) (l : List Int) (w : World) : Calls Tryd.prog 96 #[.slice A l.length c] w fun e w' => e = .returned (.bool (long l)) ∧ w' = w := by
  have e1 : decide (10000 < (l.length : Int)) = long l := decide_eq_decide.2 (by omega)
  go_enter Tryd.func96, Tryd.ntmps96
  go_wp2_with fail
  go_ret
  exact ⟨congrArg (fun b => Ending.returned (.bool b)) (by first | exact e1 | rfl), rfl⟩
set_option maxHeartbeats 1600000 in
set_option maxRecDepth 100000 in
theorem index_walk (A : Option Addr) (c : Nat) (ll : List (List Int)) (w : World) (hr : Kd.C (Kd.slice 5 (Kd.int .u8)) w A ll.length ll) (hl : ll.length ≤ 1000000) : Calls Tryd.prog 102 #[.slice A ll.length c, .func (.func 96) #[] #[]] w fun e w' => ∃ r : Int, e = .returned (.int .i64 r) ∧ decide (0 ≤ r) = ll.any long ∧ w' = w := by
  have Hhr := Aside0.mk hr
  have Hhl := Aside0.mk hl
  clear hr hl
  go_enter Tryd.func102, Tryd.ntmps102
  go_wp2_with fail
  go_loopg [8] ll.length (fun n v8 w' => ∃ k : Nat, v8 = .int .i64 (k : Int) ∧ Aside0 (k + n = ll.length) ∧ Aside0 (∀ j, j < k → long (ll.getD j []) = false) ∧ Aside0 (w' = w))
  case atStart => exact ⟨0, rfl, ⟨by omega⟩, ⟨fun j hlt => absurd hlt (by omega)⟩, ⟨rfl⟩⟩
  case round =>
    obtain ⟨k, rfl, HK, HJ, HW⟩ := hrel
    obtain rfl := HW.out
    by_cases hk : k < ll.length
    · obtain ⟨go, rfl⟩ : ∃ j, gk = j + 1 := ⟨gk - 1, by have := HK.out; omega⟩
      have hi1 : ((k : Int) < ((ll.length : Nat) : Int)) = True := eq_true (by omega)
      have hi2 : (k < ll.length) = True := eq_true hk
      have hi3 : (0 ≤ (k : Int)) = True := eq_true (by omega)
      have u1 : wrap64 ((k : Int) + 1) = ((k + 1 : Nat) : Int) := by have := Hhl.out; unfold wrap64; omega
      obtain ⟨i2, hi2'⟩ : ∃ x : Nat, x = k + 1 := ⟨_, rfl⟩
      rw [← hi2'] at u1
      have HI2 := Aside0.mk hi2'
      have HI := Aside0.mk hk
      obtain ⟨ad, rfl, hx_⟩ : ∃ ad, A = some ad ∧ True := by obtain ⟨ad, e, _⟩ := Hhr.out.2.2 (by omega); exact ⟨ad, e, trivial⟩
      clear hx_ hk hi2'
      obtain ⟨Ai, ci, hcell, hle_, hC_⟩ := rows_get Hhr.out k HI.out
      obtain ⟨x, hx⟩ : ∃ x : List Int, x = ll.getD k [] := ⟨_, rfl⟩
      have HX0 := Aside0.mk hx
      rw [← hx] at hcell hle_ hC_
      clear hC_ hle_ hx
      cases hb : long x with
      | true =>
        have HB := Aside0.mk hb
        clear hb
        go_wp2_with fail
        refine (long_walk Ai ci x _).mono ?_
        rintro e w' ⟨rfl, rfl⟩
        rw [HB.out]
        go_wp2_with fail
        go_ret
        refine ⟨(k : Int), rfl, ?_, rfl⟩
        rw [decide_eq_true (by omega), eq_comm, List.any_eq_true]
        refine ⟨x, ?_, HB.out⟩
        rw [HX0.out, List.getD_eq_getElem?_getD, List.getElem?_eq_getElem HI.out]
        exact List.getElem_mem _
      | false =>
        have HB := Aside0.mk hb
        clear hb
        go_wp2_with fail
        refine (long_walk Ai ci x _).mono ?_
        rintro e w' ⟨rfl, rfl⟩
        rw [HB.out]
        go_wp2_with fail
        go_roundg go
        case measure => have := HK.out; omega
        case rel =>
          refine ⟨i2, (by first | rfl | rw [u1]), ⟨by have := HK.out; have := HI2.out; omega⟩, ⟨fun j hlt => ?_⟩, ⟨rfl⟩⟩
          by_cases h : j = k
          · subst h; rw [← HX0.out]; exact HB.out
          · exact HJ.out j (by have := HI2.out; omega)
    · have hi1 : ((k : Int) < ((ll.length : Nat) : Int)) = False := eq_false (by omega)
      have HN := Aside0.mk hk
      clear hk
      go_wp2_with fail
      go_ret
      refine ⟨-1, rfl, ?_, rfl⟩
      rw [decide_eq_false (by omega), eq_comm, List.any_eq_false]
      intro x hx
      obtain ⟨j, hj, rfl⟩ := List.mem_iff_getElem.1 hx
      have := HJ.out j (by have := HN.out; omega)
      rw [List.getD_eq_getElem?_getD, List.getElem?_eq_getElem hj] at this
      exact Bool.eq_false_iff.1 this
set_option maxHeartbeats 1600000 in
set_option maxRecDepth 100000 in
theorem contains_walk (A : Option Addr) (c : Nat) (ll : List (List Int)) (w : World) (hr : Kd.C (Kd.slice 5 (Kd.int .u8)) w A ll.length ll) (hl : ll.length ≤ 1000000) : Calls Tryd.prog 95 #[.slice A ll.length c, .func (.func 96) #[] #[]] w fun e w' => e = .returned (.bool (ll.any long)) ∧ w' = w := by
  have Hhr := Aside0.mk hr
  have Hhl := Aside0.mk hl
  clear hr hl
  go_enter Tryd.func95, Tryd.ntmps95
  go_wp2_with fail
  refine (index_walk A c ll _ Hhr.out Hhl.out).mono ?_
  rintro e w' ⟨r, rfl, hd, rfl⟩
  have HD := Aside0.mk hd
  clear hd
  go_wp2_with fail
  go_ret
  exact ⟨congrArg (fun b => Ending.returned (.bool b)) (by first | rfl | exact HD.out), rfl⟩
set_option maxHeartbeats 1600000 in
set_option maxRecDepth 100000 in
theorem leaves_many (A : Option Addr) (n c : Nat) (w : World) (hn : 600 < n) : Calls Tryd.prog 72 #[.slice A n c] w fun e w' => e = .returned (.tuple #[.slice none 0 0, .int .i64 4]) ∧ w' = w := by
  have t1 : (600 < ((n : Nat) : Int)) = True := eq_true (by omega)
  go_enter Tryd.func72, Tryd.ntmps72
  go_wp2_with fail
  go_ret2
  exact ⟨rfl, rfl⟩
set_option maxHeartbeats 1600000 in
set_option maxRecDepth 100000 in
theorem leaves_long (A : Option Addr) (c : Nat) (ll : List (List Int)) (w : World) (hr : Kd.C (Kd.slice 5 (Kd.int .u8)) w A ll.length ll) (hl : ll.length ≤ 600) (hb : ll.any long = true) : Calls Tryd.prog 72 #[.slice A ll.length c] w fun e w' => e = .returned (.tuple #[.slice none 0 0, .int .i64 4]) ∧ w' = w := by
  have t1 : (600 < ((ll.length : Nat) : Int)) = False := eq_false (by omega)
  have Hhr := Aside0.mk hr
  have Hhl := Aside0.mk hl
  have Hhb := Aside0.mk hb
  clear hr hl hb
  go_enter Tryd.func72, Tryd.ntmps72
  go_wp2_with fail
  refine (contains_walk A c ll _ Hhr.out (by have := Hhl.out; omega)).mono ?_
  rintro e w' ⟨rfl, rfl⟩
  rw [Hhb.out]
  go_wp2_with fail
  go_ret2
  exact ⟨rfl, rfl⟩
set_option maxHeartbeats 1600000 in
set_option maxRecDepth 100000 in
theorem leaves_ok (A : Option Addr) (c : Nat) (ll : List (List Int)) (lf : List Int → Dg) (w : World) (hT : TabQ w) (hr : Kd.C (Kd.slice 5 (Kd.int .u8)) w A ll.length ll) (hl : ll.length ≤ 600) (hb : ll.any long = false) (hleaf : ∀ i, i < ll.length → ∀ (W : World) (A1 : Option Addr) (c1 : Nat), TabQ W → Kd.C (Kd.int .u8) W A1 (ll.getD i []).length (ll.getD i []) → (ll.getD i []).length ≤ c1 → Calls Tryd.prog 39 #[.slice A1 (ll.getD i []).length c1] W fun e w' => e = .returned (.tuple #[.agg #[.int .u8 (lf (ll.getD i []) 0), .int .u8 (lf (ll.getD i []) 1), .int .u8 (lf (ll.getD i []) 2), .int .u8 (lf (ll.getD i []) 3), .int .u8 (lf (ll.getD i []) 4), .int .u8 (lf (ll.getD i []) 5), .int .u8 (lf (ll.getD i []) 6), .int .u8 (lf (ll.getD i []) 7), .int .u8 (lf (ll.getD i []) 8), .int .u8 (lf (ll.getD i []) 9), .int .u8 (lf (ll.getD i []) 10), .int .u8 (lf (ll.getD i []) 11), .int .u8 (lf (ll.getD i []) 12), .int .u8 (lf (ll.getD i []) 13), .int .u8 (lf (ll.getD i []) 14), .int .u8 (lf (ll.getD i []) 15), .int .u8 (lf (ll.getD i []) 16), .int .u8 (lf (ll.getD i []) 17), .int .u8 (lf (ll.getD i []) 18), .int .u8 (lf (ll.getD i []) 19)], .int .i64 0]) ∧ Below W.heap.size W w') :
    Calls Tryd.prog 72 #[.slice A ll.length c] w fun e w' => ∃ v0_ : Value, e = .returned (.tuple #[v0_, .int .i64 0]) ∧ Kd.R kdg 23 w' w.heap.size (fun _ => True) v0_ (ll.map lf) ∧ Below w.heap.size w w' := by
  have t1 : (600 < ((ll.length : Nat) : Int)) = False := eq_false (by omega)
  have HhT := Aside0.mk hT
  have Hhr := Aside0.mk hr
  have Hhl := Aside0.mk hl
  have Hhb := Aside0.mk hb
  have Hhleaf := Aside0.mk hleaf
  clear hT hr hl hb hleaf
  go_enter Tryd.func72, Tryd.ntmps72
  go_wp2_with fail
  refine (contains_walk A c ll _ Hhr.out (by have := Hhl.out; omega)).mono ?_
  rintro e w' ⟨rfl, hw_⟩
  obtain rfl : w' = w := hw_
  rw [Hhb.out]
  go_wp2_with fail
  go_loopg [4, 18] ll.length (fun n v4 v18 w1 => ∃ (i : Nat), v18 = .int .i64 (i : Int) ∧ Aside0 (i + n = ll.length) ∧ Aside0 (Kd.R kdg 23 w1 w'.heap.size (fun _ => True) v4 ((ll.take i).map lf)) ∧ Aside0 (Below w'.heap.size w' w1))
  case atStart => exact ⟨0, rfl, ⟨by omega⟩, ⟨Kd.R_nil _ _ _ _ _⟩, ⟨Below.refl _ _⟩⟩
  case round =>
    obtain ⟨i, rfl, HK, HO, BB⟩ := hrel
    by_cases hk : i < ll.length
    · obtain ⟨go, rfl⟩ : ∃ j, gk = j + 1 := ⟨gk - 1, by have := HK.out; omega⟩
      have hi1 : ((i : Int) < ((ll.length : Nat) : Int)) = True := eq_true (by omega)
      have hi2 : (i < ll.length) = True := eq_true hk
      have hi3 : (0 ≤ (i : Int)) = True := eq_true (by omega)
      have u1 : wrap64 ((i : Int) + 1) = ((i + 1 : Nat) : Int) := by have := Hhl.out; unfold wrap64; omega
      obtain ⟨i2, hi2'⟩ : ∃ x : Nat, x = i + 1 := ⟨_, rfl⟩
      rw [← hi2'] at u1
      have HI2 := Aside0.mk hi2'
      have HI := Aside0.mk hk
      obtain ⟨ad, rfl, hx_⟩ : ∃ ad, A = some ad ∧ True := by obtain ⟨ad, e, _⟩ := Hhr.out.2.2 (by omega); exact ⟨ad, e, trivial⟩
      clear hx_ hk hi2'
      obtain ⟨Ai, ci, hcell, hle_, hC_⟩ := rows_get (Kd.C_below Hhr.out BB.out) i HI.out
      obtain ⟨x, hx⟩ : ∃ x : List Int, x = ll.getD i [] := ⟨_, rfl⟩
      have HLF := Aside0.mk (Hhleaf.out i HI.out)
      have HX0 := Aside0.mk hx
      rw [← hx] at hcell hle_ hC_ HLF
      have HC1 := Aside0.mk hC_
      have HL1 := Aside0.mk hle_
      clear hC_ hle_ hx
      obtain ⟨p, hp⟩ : ∃ p : Dg, p = lf x := ⟨_, rfl⟩
      rw [← hp] at HLF
      have HP := Aside0.mk hp
      clear hp
      go_wp2_with fail
      refine ((HLF.out wr Ai ci (HhT.out.at BB.out) HC1.out HL1.out)).mono ?_
      rintro e w101 ⟨rfl, hb_⟩
      have B102 := Aside0.mk (below_step BB.out hb_)
      have HO103 := Aside0.mk (Kd.R_below HO.out hb_)
      clear hb_ BB HO
      clear hcell HC1 HL1 HLF
      go_wp2_with (first | ((with_reducible refine gate_dst (N := 7) rfl ?_); refine box_event ?hg (N := 7) ?hd (cs := #[.int .u8 0, .int .u8 0, .int .u8 0, .int .u8 0, .int .u8 0, .int .u8 0, .int .u8 0, .int .u8 0, .int .u8 0, .int .u8 0, .int .u8 0, .int .u8 0, .int .u8 0, .int .u8 0, .int .u8 0, .int .u8 0, .int .u8 0, .int .u8 0, .int .u8 0, .int .u8 0]) (t := 23) ?hr ?_; (case hd => rfl); (case hg => rfl); (case hr => first | (go_simp; done) | (go_simp; rfl)); intro g104 hgg104 w105 hhg104 hbg104; have H110 := Aside0.mk hhg104; have G106 : w'.heap.size ≤ g104 := Nat.le_trans B102.out.size (Nat.le_of_eq hgg104.symm); have G107 : w101.heap.size ≤ g104 := Nat.le_of_eq hgg104.symm; have B108 := Aside0.mk (below_step B102.out hbg104); have B109 := Aside0.mk (hbg104); clear hgg104 hhg104 hbg104 B102) | ((with_reducible refine gate_store (t := 23) (p := _) rfl ?_); refine storeN_event (T := 23) rfl rfl rfl rfl rfl (storeVar_blk H110.out 23 0 [.int .u8 (p 0), .int .u8 (p 1), .int .u8 (p 2), .int .u8 (p 3), .int .u8 (p 4), .int .u8 (p 5), .int .u8 (p 6), .int .u8 (p 7), .int .u8 (p 8), .int .u8 (p 9), .int .u8 (p 10), .int .u8 (p 11), .int .u8 (p 12), .int .u8 (p 13), .int .u8 (p 14), .int .u8 (p 15), .int .u8 (p 16), .int .u8 (p 17), .int .u8 (p 18), .int .u8 (p 19)] (by kernel_rfl) rfl (by simp)) ?_; have H112 := Aside0.mk (show (World.setCells w105 g104 0 [.int .u8 (p 0), .int .u8 (p 1), .int .u8 (p 2), .int .u8 (p 3), .int .u8 (p 4), .int .u8 (p 5), .int .u8 (p 6), .int .u8 (p 7), .int .u8 (p 8), .int .u8 (p 9), .int .u8 (p 10), .int .u8 (p 11), .int .u8 (p 12), .int .u8 (p 13), .int .u8 (p 14), .int .u8 (p 15), .int .u8 (p 16), .int .u8 (p 17), .int .u8 (p 18), .int .u8 (p 19)]).heap[g104]? = some (.cells #[.int .u8 (p 0), .int .u8 (p 1), .int .u8 (p 2), .int .u8 (p 3), .int .u8 (p 4), .int .u8 (p 5), .int .u8 (p 6), .int .u8 (p 7), .int .u8 (p 8), .int .u8 (p 9), .int .u8 (p 10), .int .u8 (p 11), .int .u8 (p 12), .int .u8 (p 13), .int .u8 (p 14), .int .u8 (p 15), .int .u8 (p 16), .int .u8 (p 17), .int .u8 (p 18), .int .u8 (p 19)] 23 (0, 0)) from blk_setCells [] [.int .u8 (p 0), .int .u8 (p 1), .int .u8 (p 2), .int .u8 (p 3), .int .u8 (p 4), .int .u8 (p 5), .int .u8 (p 6), .int .u8 (p 7), .int .u8 (p 8), .int .u8 (p 9), .int .u8 (p 10), .int .u8 (p 11), .int .u8 (p 12), .int .u8 (p 13), .int .u8 (p 14), .int .u8 (p 15), .int .u8 (p 16), .int .u8 (p 17), .int .u8 (p 18), .int .u8 (p 19)] [.int .u8 0, .int .u8 0, .int .u8 0, .int .u8 0, .int .u8 0, .int .u8 0, .int .u8 0, .int .u8 0, .int .u8 0, .int .u8 0, .int .u8 0, .int .u8 0, .int .u8 0, .int .u8 0, .int .u8 0, .int .u8 0, .int .u8 0, .int .u8 0, .int .u8 0, .int .u8 0] [] w105 rfl H110.out); have B113 := Aside0.mk (below_setCells G106 [.int .u8 (p 0), .int .u8 (p 1), .int .u8 (p 2), .int .u8 (p 3), .int .u8 (p 4), .int .u8 (p 5), .int .u8 (p 6), .int .u8 (p 7), .int .u8 (p 8), .int .u8 (p 9), .int .u8 (p 10), .int .u8 (p 11), .int .u8 (p 12), .int .u8 (p 13), .int .u8 (p 14), .int .u8 (p 15), .int .u8 (p 16), .int .u8 (p 17), .int .u8 (p 18), .int .u8 (p 19)] 0 w105 B108.out); have B114 := Aside0.mk (below_setCells G107 [.int .u8 (p 0), .int .u8 (p 1), .int .u8 (p 2), .int .u8 (p 3), .int .u8 (p 4), .int .u8 (p 5), .int .u8 (p 6), .int .u8 (p 7), .int .u8 (p 8), .int .u8 (p 9), .int .u8 (p 10), .int .u8 (p 11), .int .u8 (p 12), .int .u8 (p 13), .int .u8 (p 14), .int .u8 (p 15), .int .u8 (p 16), .int .u8 (p 17), .int .u8 (p 18), .int .u8 (p 19)] 0 w105 B109.out); clear H110 B108 B109; generalize World.setCells w105 g104 0 [.int .u8 (p 0), .int .u8 (p 1), .int .u8 (p 2), .int .u8 (p 3), .int .u8 (p 4), .int .u8 (p 5), .int .u8 (p 6), .int .u8 (p 7), .int .u8 (p 8), .int .u8 (p 9), .int .u8 (p 10), .int .u8 (p 11), .int .u8 (p 12), .int .u8 (p 13), .int .u8 (p 14), .int .u8 (p 15), .int .u8 (p 16), .int .u8 (p 17), .int .u8 (p 18), .int .u8 (p 19)] = w111 at H112 B113 B114 ⊢) | ((with_reducible refine gate_dst (N := 31) rfl ?_); refine loadG_event (T := 23) (by rfl) rfl rfl (run_loadVar_row _ _ _ _ _ (0, 0) _ H112.out Tryd.underlying23 rfl (by kernel_rfl)) ?_) | ((with_reducible refine gate_bltn (b := .append) (xs := #[.tmp 30, .tmp 32]) rfl ?_); at_builtin; refine Kd.R_append kdg (w0 := w') w'.heap.size rfl (.tmp 30) (.tmp 32) 55 23 (.agg #[.int .u8 0, .int .u8 0, .int .u8 0, .int .u8 0, .int .u8 0, .int .u8 0, .int .u8 0, .int .u8 0, .int .u8 0, .int .u8 0, .int .u8 0, .int .u8 0, .int .u8 0, .int .u8 0, .int .u8 0, .int .u8 0, .int .u8 0, .int .u8 0, .int .u8 0, .int .u8 0]) 20 rfl Tryd.underlying55 info23p rfl (by decide) (by decide) _ ((ll.take i).map lf) p [.int .u8 (p 0), .int .u8 (p 1), .int .u8 (p 2), .int .u8 (p 3), .int .u8 (p 4), .int .u8 (p 5), .int .u8 (p 6), .int .u8 (p 7), .int .u8 (p 8), .int .u8 (p 9), .int .u8 (p 10), .int .u8 (p 11), .int .u8 (p 12), .int .u8 (p 13), .int .u8 (p 14), .int .u8 (p 15), .int .u8 (p 16), .int .u8 (p 17), .int .u8 (p 18), .int .u8 (p 19)] (fun _ => True) (fun _ => False) rfl rfl ?aP (fun _ hk => hk.elim) ?aF ?aO ?aB ?aS ?aL ?_; (case aP => exact dgM _ _ _ _); (case aB => first | exact B113.out | exact below_alloc B113.out _); (case aF => exact (fun _ _ => trivial)); (case aO => exact (by (with_reducible repeat (first | apply Kd.R_alloc)); exact (Kd.R_below HO103.out B114.out))); (case aS => first | exact below_size B113.out | exact below_size (below_alloc B113.out _)); (case aL => have := Hhl.out; have := HI.out; simp only [List.length_map, List.length_take]; omega); intro v200 w200 ho hb hg hat; have HO200 := Aside0.mk ho; have B200 := Aside0.mk hb; clear ho hb hg hat HO103 B113))
      go_roundg go
      case measure => have := HK.out; omega
      case rel => exact ⟨i2, (by first | rfl | rw [u1]), ⟨by have := HK.out; have := HI2.out; omega⟩, ⟨by rw [HI2.out, take_map lf ll i HI.out, ← HX0.out, ← HP.out]; exact HO200.out⟩, B200⟩
    · obtain rfl : i = ll.length := by have := HK.out; omega
      have hi1 : (((ll.length : Nat) : Int) < ((ll.length : Nat) : Int)) = False := eq_false (by omega)
      clear hk
      go_wp2_with fail
      go_ret2
      exact ⟨_, rfl, by have h := HO.out; rw [List.take_length] at h; exact h, BB.out⟩
end Go.Proofs.YtbldecdipicddaaDoor.Hand
