/- bitloftlaw01.is: a string has this digest. Written by wip/s1/mkis.py. -/
import Derived.Test.YtbldecdipicddaaDoorLSums
set_option linter.unusedSimpArgs false
set_option linter.unusedVariables false
namespace Go.Proofs.YtbldecdipicddaaDoor.Hand
open Go Go.RowKit Go.Proofs.YtbldecdipicddaaDoorW.PrintWords Go.Proofs.YtbldecdipicddaaDoorW.PrintLast Go.Proofs.YtbldecdipicddaaDoorW.PrintMore
namespace Is
/-- '[]byte(s)': a new row with the string's bytes. -/
theorem strbytes_world (W : World) (s : ByteArray) (hs : s.size ≤ 9223372036854775807) : Below W.heap.size W (Lib.bytesWorld W 5 s) ∧ Kd.C (Kd.int .u8) (Lib.bytesWorld W 5 s) (some ⟨W.heap.size, 0, none⟩) s.size (s.data.toList.map fun b => (b.toNat : Int)) := by
  refine ⟨?_, ?_⟩
  · have h := below_drew (Below.refl W.heap.size W)
    exact ⟨h.os, h.tape, h.output, by rw [Lib.bytesWorld_size]; omega, fun k hk => Lib.bytesWorld_at_old W 5 s k hk⟩
  · have hl : (s.data.toList.map fun b => (b.toNat : Int)).length = s.size := by simp
    refine Kd.C_of_reads (d := (0 : Int)) (h1 := fun _ => rfl) ⟨hl, hs, fun _ => ⟨⟨W.heap.size, 0, none⟩, rfl, fun j hj => ?_⟩⟩
    have e : (⟨W.heap.size, 0, none⟩ : Addr).add j = ⟨W.heap.size, j, none⟩ := by
      by_cases h : j = 0
      · subst h; rfl
      · simp [Addr.add, h]
    rw [e, Lib.bytesWorld_cell W 5 s j hj]
    simp [List.getD_eq_getElem?_getD, List.getElem?_map, hj]
theorem strOfNums_size (xs : List Int) : (strOfNums xs).size = xs.length := by simp [strOfNums, ByteArray.size]
theorem strOfNums_bytes {xs : List Int} (h : ∀ z ∈ xs, 0 ≤ z ∧ z < 256) : ((strOfNums xs).data.toList.map fun b => (b.toNat : Int)) = xs := by
  simp only [strOfNums, List.map_map]
  conv => rhs; rw [← List.map_id xs]
  apply List.map_congr_left
  intro z hz
  have := h z hz
  simp only [Function.comp, id, UInt8.toNat_ofNat']
  omega
theorem strbytes_event {ops : Array Oper} {o : Oper} {rest : List Oper} {a : Act} {Q : Exit → Act → World → Prop} {W : World} {x : Operand} {xs : List Int} (hgd : o.guard = none) (ho : o.op = .convert 9 26 x) (hx : a.eval x = .string (strOfNums xs)) (hr : ∀ z ∈ xs, 0 ≤ z ∧ z < 256) (hl : xs.length ≤ 9223372036854775807)
    (h : ∀ (g cap : Nat) (w1 : World), Below W.heap.size W w1 → xs.length ≤ cap → Kd.C (Kd.int .u8) w1 (some ⟨g, 0, none⟩) xs.length xs → wpList Tryd.prog ops Q rest (a.put o.dst (.slice (some ⟨g, 0, none⟩) xs.length cap)) w1) : wpList Tryd.prog ops Q (o :: rest) a W := by
  obtain ⟨hb, hC⟩ := strbytes_world W (strOfNums xs) (by rw [strOfNums_size]; exact hl)
  rw [strOfNums_size, strOfNums_bytes hr] at hC
  have hrun := Lib.run_convert_string_bytes (P := Tryd.prog) W 9 26 5 (strOfNums xs) Tryd.underlying9 Tryd.underlying26 Tryd.underlying5
  rw [strOfNums_size] at hrun
  refine Kd.event_run hgd (v := .slice (some ⟨W.heap.size, 0, none⟩) xs.length (grownCap W xs.length 0 5)) (w1 := Lib.bytesWorld W 5 (strOfNums xs)) ?_ (h _ _ _ hb ?_ hC)
  · unfold execOp
    simp [ho, hx, hrun]
  · exact grownCap_ge _ _ _ _
set_option maxHeartbeats 1600000 in
set_option maxRecDepth 100000 in
theorem is_walk (xs : List Int) (d0 d1 d2 d3 d4 d5 d6 d7 d8 d9 d10 d11 d12 d13 d14 d15 d16 d17 d18 d19 : Int) (w : World) (hT : TabQ w) (hlen : xs.length ≤ 20000) (hr : ∀ z ∈ xs, 0 ≤ z ∧ z < 256) (hsum : ∀ (W : World) (A : Option Addr) (c : Nat), TabQ W → Kd.C (Kd.int .u8) W A xs.length xs → xs.length ≤ c → Calls Tryd.prog 44 #[.slice A xs.length c] W fun e w' => e = .returned (.tuple #[.agg #[.int .u8 d0, .int .u8 d1, .int .u8 d2, .int .u8 d3, .int .u8 d4, .int .u8 d5, .int .u8 d6, .int .u8 d7, .int .u8 d8, .int .u8 d9, .int .u8 d10, .int .u8 d11, .int .u8 d12, .int .u8 d13, .int .u8 d14, .int .u8 d15, .int .u8 d16, .int .u8 d17, .int .u8 d18, .int .u8 d19], .int .i64 0]) ∧ Below W.heap.size W w') :
    Calls Tryd.prog 49 #[.string (strOfNums xs), .agg #[.int .u8 d0, .int .u8 d1, .int .u8 d2, .int .u8 d3], .int .u8 d19] w fun e w' => e = .returned (.bool true) ∧ Below w.heap.size w w' := by
  have HT := Aside0.mk hT
  have HS := Aside0.mk hsum
  have HRG := Aside0.mk hr
  have HLN := Aside0.mk hlen
  clear hT hsum hr hlen
  go_enter Tryd.func49, Tryd.ntmps49
  go_wp2_with (first | ((with_reducible refine gate_dst (N := 4) rfl ?_); refine box_event ?hg (N := 4) ?hd (cs := #[.int .u8 d0, .int .u8 d1, .int .u8 d2, .int .u8 d3]) (t := 74) ?hr ?_; (case hd => rfl); (case hg => rfl); (case hr => first | (go_simp; done) | (go_simp; rfl)); intro g1 hgg1 w2 hhg1 hbg1; have H5 := Aside0.mk hhg1; have G3 : w.heap.size ≤ g1 := Nat.le_of_eq hgg1.symm; have B4 := Aside0.mk (hbg1); clear hgg1 hhg1 hbg1) | ((with_reducible refine gate_dst (N := 11) rfl ?_); refine strbytes_event rfl rfl rfl HRG.out (by have := HLN.out; omega) ?_; intro gs cs w6 hbs_ hle_ hC_; have B7 := Aside0.mk (below_step B4.out hbs_); have H8 := Aside0.mk (blk_below H5.out hbs_); have RS := Aside0.mk hC_; have LS := Aside0.mk hle_; clear hbs_ hle_ hC_ B4 H5))
  refine (HS.out w6 (some ⟨gs, 0, none⟩) cs (HT.out.at B7.out) RS.out LS.out).mono ?_
  rintro e w9 ⟨rfl, hb_⟩
  have B10 := Aside0.mk (below_step B7.out hb_)
  have H11 := Aside0.mk (blk_below H8.out hb_)
  clear hb_ B7 H8
  go_wp2_with (first | ((with_reducible refine gate_dst (N := 7) rfl ?_); refine box_event ?hg (N := 7) ?hd (cs := #[.int .u8 0, .int .u8 0, .int .u8 0, .int .u8 0, .int .u8 0, .int .u8 0, .int .u8 0, .int .u8 0, .int .u8 0, .int .u8 0, .int .u8 0, .int .u8 0, .int .u8 0, .int .u8 0, .int .u8 0, .int .u8 0, .int .u8 0, .int .u8 0, .int .u8 0, .int .u8 0]) (t := 23) ?hr ?_; (case hd => rfl); (case hg => rfl); (case hr => first | (go_simp; done) | (go_simp; rfl)); intro g12 hgg12 w13 hhg12 hbg12; have H18 := Aside0.mk hhg12; have N14 : g1 ≠ g12 := Nat.ne_of_lt (Nat.lt_of_lt_of_eq (blk_lt H11.out) hgg12.symm); have G15 : w.heap.size ≤ g12 := Nat.le_trans B10.out.size (Nat.le_of_eq hgg12.symm); have B16 := Aside0.mk (below_step B10.out hbg12); have H17 := Aside0.mk (blk_below H11.out hbg12); clear hgg12 hhg12 hbg12 B10 H11) | ((with_reducible refine gate_store (t := 23) (p := _) rfl ?_); refine storeN_event (T := 23) rfl rfl rfl rfl rfl (storeVar_blk H18.out 23 0 [.int .u8 d0, .int .u8 d1, .int .u8 d2, .int .u8 d3, .int .u8 d4, .int .u8 d5, .int .u8 d6, .int .u8 d7, .int .u8 d8, .int .u8 d9, .int .u8 d10, .int .u8 d11, .int .u8 d12, .int .u8 d13, .int .u8 d14, .int .u8 d15, .int .u8 d16, .int .u8 d17, .int .u8 d18, .int .u8 d19] (by kernel_rfl) rfl (by simp)) ?_; have H20 := Aside0.mk (show (World.setCells w13 g12 0 [.int .u8 d0, .int .u8 d1, .int .u8 d2, .int .u8 d3, .int .u8 d4, .int .u8 d5, .int .u8 d6, .int .u8 d7, .int .u8 d8, .int .u8 d9, .int .u8 d10, .int .u8 d11, .int .u8 d12, .int .u8 d13, .int .u8 d14, .int .u8 d15, .int .u8 d16, .int .u8 d17, .int .u8 d18, .int .u8 d19]).heap[g12]? = some (.cells #[.int .u8 d0, .int .u8 d1, .int .u8 d2, .int .u8 d3, .int .u8 d4, .int .u8 d5, .int .u8 d6, .int .u8 d7, .int .u8 d8, .int .u8 d9, .int .u8 d10, .int .u8 d11, .int .u8 d12, .int .u8 d13, .int .u8 d14, .int .u8 d15, .int .u8 d16, .int .u8 d17, .int .u8 d18, .int .u8 d19] 23 (0, 0)) from blk_setCells [] [.int .u8 d0, .int .u8 d1, .int .u8 d2, .int .u8 d3, .int .u8 d4, .int .u8 d5, .int .u8 d6, .int .u8 d7, .int .u8 d8, .int .u8 d9, .int .u8 d10, .int .u8 d11, .int .u8 d12, .int .u8 d13, .int .u8 d14, .int .u8 d15, .int .u8 d16, .int .u8 d17, .int .u8 d18, .int .u8 d19] [.int .u8 0, .int .u8 0, .int .u8 0, .int .u8 0, .int .u8 0, .int .u8 0, .int .u8 0, .int .u8 0, .int .u8 0, .int .u8 0, .int .u8 0, .int .u8 0, .int .u8 0, .int .u8 0, .int .u8 0, .int .u8 0, .int .u8 0, .int .u8 0, .int .u8 0, .int .u8 0] [] w13 rfl H18.out); have H21 := Aside0.mk (far_setCells N14 [.int .u8 d0, .int .u8 d1, .int .u8 d2, .int .u8 d3, .int .u8 d4, .int .u8 d5, .int .u8 d6, .int .u8 d7, .int .u8 d8, .int .u8 d9, .int .u8 d10, .int .u8 d11, .int .u8 d12, .int .u8 d13, .int .u8 d14, .int .u8 d15, .int .u8 d16, .int .u8 d17, .int .u8 d18, .int .u8 d19] 0 w13 H17.out); have B22 := Aside0.mk (below_setCells G15 [.int .u8 d0, .int .u8 d1, .int .u8 d2, .int .u8 d3, .int .u8 d4, .int .u8 d5, .int .u8 d6, .int .u8 d7, .int .u8 d8, .int .u8 d9, .int .u8 d10, .int .u8 d11, .int .u8 d12, .int .u8 d13, .int .u8 d14, .int .u8 d15, .int .u8 d16, .int .u8 d17, .int .u8 d18, .int .u8 d19] 0 w13 B16.out); clear H18 H17 B16; generalize World.setCells w13 g12 0 [.int .u8 d0, .int .u8 d1, .int .u8 d2, .int .u8 d3, .int .u8 d4, .int .u8 d5, .int .u8 d6, .int .u8 d7, .int .u8 d8, .int .u8 d9, .int .u8 d10, .int .u8 d11, .int .u8 d12, .int .u8 d13, .int .u8 d14, .int .u8 d15, .int .u8 d16, .int .u8 d17, .int .u8 d18, .int .u8 d19] = w19 at H21 H20 B22 ⊢; have c7_0 := (blk_cell (i := 0) H20.out); have c7_1 := (blk_cell (i := 1) H20.out); have c7_2 := (blk_cell (i := 2) H20.out); have c7_3 := (blk_cell (i := 3) H20.out); have c7_19 := (blk_cell (i := 19) H20.out); have c4_0 := (blk_cell (i := 0) H21.out); have c4_1 := (blk_cell (i := 1) H21.out); have c4_2 := (blk_cell (i := 2) H21.out); have c4_3 := (blk_cell (i := 3) H21.out)))
  go_ret
  exact ⟨rfl, B22.out⟩
end Is
set_option maxRecDepth 100000
theorem dig_nil : dig (fin5 []) = [218, 57, 163, 238, 94, 107, 75, 13, 50, 85, 191, 239, 149, 96, 24, 144, 175, 216, 7, 9] := by decide +kernel
theorem dig_abc : dig (fin5 [97, 98, 99]) = [169, 153, 62, 54, 71, 6, 129, 106, 186, 62, 37, 113, 120, 80, 194, 108, 156, 208, 216, 157] := by decide +kernel
end Go.Proofs.YtbldecdipicddaaDoor.Hand
