/- The walks of the law HeaderWrites. Written by wip/s1/mkwrites.py. -/
import Derived.Test.YtbldecdipicddaaDoorHDiffer
set_option linter.unusedSimpArgs false
set_option linter.unusedVariables false
namespace Go.Proofs.YtbldecdipicddaaDoor.Hand
open Go Go.RowKit Go.Proofs.YtbldecdipicddaaDoorW.PrintWords Go.Proofs.YtbldecdipicddaaDoorW.PrintLast Go.Proofs.YtbldecdipicddaaDoorW.PrintMore
/-- '[]byte(s)': a new row with the string's bytes. -/
theorem strbytes_world (W : World) (s : ByteArray) (hs : s.size ≤ 9223372036854775807) : Below W.heap.size W (Lib.bytesWorld W 5 s) ∧ Kd.C (Kd.int .u8) (Lib.bytesWorld W 5 s) (some ⟨W.heap.size, 0, none⟩) s.size (s.data.toList.map fun b => (b.toNat : Int)) := by
  refine ⟨?_, ?_⟩
  · have h := below_drew (Below.refl W.heap.size W)
    exact ⟨h.os, h.tape, h.output, by rw [Lib.bytesWorld_size]; omega, fun k hk => Lib.bytesWorld_at_old W 5 s k hk⟩
  · have hl : (s.data.toList.map fun b => (b.toNat : Int)).length = s.size := by simp
    refine Kd.C_of_reads (d := (0 : Int)) (h1 := fun _ => rfl) ⟨hl, hs, fun _ => ⟨⟨W.heap.size, 0, none⟩, rfl, fun j hj => ?_⟩⟩
    have e : (⟨W.heap.size, 0, none⟩ : Addr).add j = ⟨W.heap.size, j, none⟩ := by
      by_cases h : j = 0
      · subst h; rfl
      · simp [Addr.add, h]
    rw [e, Lib.bytesWorld_cell W 5 s j hj]
    simp [List.getD_eq_getElem?_getD, List.getElem?_map, hj]
theorem strOfNums_size (xs : List Int) : (strOfNums xs).size = xs.length := by simp [strOfNums, ByteArray.size]
theorem strOfNums_bytes {xs : List Int} (h : ∀ z ∈ xs, 0 ≤ z ∧ z < 256) : ((strOfNums xs).data.toList.map fun b => (b.toNat : Int)) = xs := by
  simp only [strOfNums, List.map_map]
  conv => rhs; rw [← List.map_id xs]
  apply List.map_congr_left
  intro z hz
  have := h z hz
  simp only [Function.comp, id, UInt8.toNat_ofNat']
  omega
theorem strbytes_event {ops : Array Oper} {o : Oper} {rest : List Oper} {a : Act} {Q : Exit → Act → World → Prop} {W : World} {x : Operand} {xs : List Int} (hgd : o.guard = none) (ho : o.op = .convert 9 26 x) (hx : a.eval x = .string (strOfNums xs)) (hr : ∀ z ∈ xs, 0 ≤ z ∧ z < 256) (hl : xs.length ≤ 9223372036854775807)
    (h : ∀ (g cap : Nat) (w1 : World), Below W.heap.size W w1 → xs.length ≤ cap → Kd.C (Kd.int .u8) w1 (some ⟨g, 0, none⟩) xs.length xs → wpList Tryd.prog ops Q rest (a.put o.dst (.slice (some ⟨g, 0, none⟩) xs.length cap)) w1) : wpList Tryd.prog ops Q (o :: rest) a W := by
  obtain ⟨hb, hC⟩ := strbytes_world W (strOfNums xs) (by rw [strOfNums_size]; exact hl)
  rw [strOfNums_size, strOfNums_bytes hr] at hC
  have hrun := Lib.run_convert_string_bytes (P := Tryd.prog) W 9 26 5 (strOfNums xs) Tryd.underlying9 Tryd.underlying26 Tryd.underlying5
  rw [strOfNums_size] at hrun
  refine Kd.event_run hgd (v := .slice (some ⟨W.heap.size, 0, none⟩) xs.length (grownCap W xs.length 0 5)) (w1 := Lib.bytesWorld W 5 (strOfNums xs)) ?_ (h _ _ _ hb ?_ hC)
  · unfold execOp
    simp [ho, hx, hrun]
  · exact grownCap_ge _ _ _ _
set_option maxHeartbeats 3200000 in
set_option maxRecDepth 100000 in
theorem writes_long (a0 a1 a2 a3 a4 a5 a6 a7 a8 a9 a10 a11 a12 a13 a14 a15 a16 a17 a18 a19 a20 a21 a22 a23 a24 : Int) (Ab : Option Addr) (cb : Nat) (l : List Int) (w : World) (hT : TabW w) (hlen : 100 < l.length) :
    Calls Tryd.prog 3 #[.agg #[.int .u8 a0, .int .i64 a1, .int .i64 a2, .int .i64 a3, .int .i64 a4, .int .u8 a5, .int .u8 a6, .int .u8 a7, .int .u8 a8, .int .u8 a9, .int .u8 a10, .int .u8 a11, .int .u8 a12, .int .u8 a13, .int .u8 a14, .int .u8 a15, .int .u8 a16, .int .u8 a17, .int .u8 a18, .int .u8 a19, .int .u8 a20, .int .u8 a21, .int .u8 a22, .int .u8 a23, .int .u8 a24], .slice Ab l.length cb] w fun e w' => e = .returned (.bool true) ∧ Below w.heap.size w w' := by
  have HhT := Aside0.mk hT
  clear hT 
  have hl1 : (100 < (l.length : Int)) = True := eq_true (by omega)
  have hl2 : decide (100 < (l.length : Int)) = true := decide_eq_true (by omega)
  have HLN := Aside0.mk hlen
  clear hlen
  go_enter Tryd.func3, Tryd.ntmps3
  go_wp2_with (first | ((with_reducible refine gate_dst (N := 2) rfl ?_); refine box_event ?hg (N := 2) ?hd (cs := #[.int .u8 a0, .int .i64 a1, .int .i64 a2, .int .i64 a3, .int .i64 a4, .int .u8 a5, .int .u8 a6, .int .u8 a7, .int .u8 a8, .int .u8 a9, .int .u8 a10, .int .u8 a11, .int .u8 a12, .int .u8 a13, .int .u8 a14, .int .u8 a15, .int .u8 a16, .int .u8 a17, .int .u8 a18, .int .u8 a19, .int .u8 a20, .int .u8 a21, .int .u8 a22, .int .u8 a23, .int .u8 a24]) (t := 25) ?hr ?_; (case hd => rfl); (case hg => rfl); (case hr => first | (go_simp; done) | (go_simp; rfl)); intro g1 hgg1 w2 hhg1 hbg1; have H5 := Aside0.mk hhg1; have G3 : w.heap.size ≤ g1 := Nat.le_of_eq hgg1.symm; have B4 := Aside0.mk (hbg1); clear hgg1 hhg1 hbg1))
  go_ret
  exact ⟨rfl, B4.out⟩
set_option maxHeartbeats 3200000 in
set_option maxRecDepth 100000 in
theorem writes_short (a0 a1 a2 a3 a4 a5 a6 a7 a8 a9 a10 a11 a12 a13 a14 a15 a16 a17 a18 a19 a20 a21 a22 a23 a24 : Int) (Ab : Option Addr) (cb : Nat) (l : List Int) (w : World) (hT : TabW w) (xa : List Int) (ec ep : Int) (p0 p1 p2 p3 p4 p5 p6 p7 p8 p9 p10 p11 p12 p13 p14 p15 p16 p17 p18 p19 p20 p21 p22 p23 p24 : Int) (hr : Kd.C (Kd.int .u8) w Ab l.length l) (hbr : ∀ z ∈ l, 0 ≤ z ∧ z < 256) (hck : ∀ W : World, Calls Tryd.prog 25 #[.agg #[.int .u8 a0, .int .i64 a1, .int .i64 a2, .int .i64 a3, .int .i64 a4, .int .u8 a5, .int .u8 a6, .int .u8 a7, .int .u8 a8, .int .u8 a9, .int .u8 a10, .int .u8 a11, .int .u8 a12, .int .u8 a13, .int .u8 a14, .int .u8 a15, .int .u8 a16, .int .u8 a17, .int .u8 a18, .int .u8 a19, .int .u8 a20, .int .u8 a21, .int .u8 a22, .int .u8 a23, .int .u8 a24]] W fun e w' => e = .returned (.int .i64 ec) ∧ Below W.heap.size W w') (hcr : ∀ W : World, Calls Tryd.prog 26 #[.agg #[.int .u8 a0, .int .i64 a1, .int .i64 a2, .int .i64 a3, .int .i64 a4, .int .u8 a5, .int .u8 a6, .int .u8 a7, .int .u8 a8, .int .u8 a9, .int .u8 a10, .int .u8 a11, .int .u8 a12, .int .u8 a13, .int .u8 a14, .int .u8 a15, .int .u8 a16, .int .u8 a17, .int .u8 a18, .int .u8 a19, .int .u8 a20, .int .u8 a21, .int .u8 a22, .int .u8 a23, .int .u8 a24]] W fun e w' => e = .returned (.int .i64 ec) ∧ Below W.heap.size W w') (hen : ∀ W : World, TabW W → Calls Tryd.prog 21 #[.agg #[.int .u8 a0, .int .i64 a1, .int .i64 a2, .int .i64 a3, .int .i64 a4, .int .u8 a5, .int .u8 a6, .int .u8 a7, .int .u8 a8, .int .u8 a9, .int .u8 a10, .int .u8 a11, .int .u8 a12, .int .u8 a13, .int .u8 a14, .int .u8 a15, .int .u8 a16, .int .u8 a17, .int .u8 a18, .int .u8 a19, .int .u8 a20, .int .u8 a21, .int .u8 a22, .int .u8 a23, .int .u8 a24]] W fun e w' => ∃ v0_ : Value, e = .returned (.tuple #[v0_, .int .i64 ec]) ∧ Kd.R (Kd.int .u8) 5 w' W.heap.size (fun _ => True) v0_ xa ∧ Below W.heap.size W w') (her : ∀ W : World, TabW W → Calls Tryd.prog 22 #[.agg #[.int .u8 a0, .int .i64 a1, .int .i64 a2, .int .i64 a3, .int .i64 a4, .int .u8 a5, .int .u8 a6, .int .u8 a7, .int .u8 a8, .int .u8 a9, .int .u8 a10, .int .u8 a11, .int .u8 a12, .int .u8 a13, .int .u8 a14, .int .u8 a15, .int .u8 a16, .int .u8 a17, .int .u8 a18, .int .u8 a19, .int .u8 a20, .int .u8 a21, .int .u8 a22, .int .u8 a23, .int .u8 a24]] W fun e w' => ∃ v0_ : Value, e = .returned (.tuple #[v0_, .int .i64 ec]) ∧ Kd.R (Kd.int .u8) 5 w' W.heap.size (fun _ => True) v0_ xa ∧ Below W.heap.size W w') (hpb : ∀ W : World, TabW W → Below w.heap.size w W → Calls Tryd.prog 23 #[.slice Ab l.length cb] W fun e w' => e = .returned (.tuple #[.agg #[.int .u8 p0, .int .i64 p1, .int .i64 p2, .int .i64 p3, .int .i64 p4, .int .u8 p5, .int .u8 p6, .int .u8 p7, .int .u8 p8, .int .u8 p9, .int .u8 p10, .int .u8 p11, .int .u8 p12, .int .u8 p13, .int .u8 p14, .int .u8 p15, .int .u8 p16, .int .u8 p17, .int .u8 p18, .int .u8 p19, .int .u8 p20, .int .u8 p21, .int .u8 p22, .int .u8 p23, .int .u8 p24], .int .i64 ep]) ∧ Below W.heap.size W w') (hpr : ∀ (W : World) (g c : Nat), l.length ≤ c → Kd.C (Kd.int .u8) W (some ⟨g, 0, none⟩) l.length l → Calls Tryd.prog 24 #[.slice (some ⟨g, 0, none⟩) l.length c] W fun e w' => e = .returned (.tuple #[.agg #[.int .u8 p0, .int .i64 p1, .int .i64 p2, .int .i64 p3, .int .i64 p4, .int .u8 p5, .int .u8 p6, .int .u8 p7, .int .u8 p8, .int .u8 p9, .int .u8 p10, .int .u8 p11, .int .u8 p12, .int .u8 p13, .int .u8 p14, .int .u8 p15, .int .u8 p16, .int .u8 p17, .int .u8 p18, .int .u8 p19, .int .u8 p20, .int .u8 p21, .int .u8 p22, .int .u8 p23, .int .u8 p24], .int .i64 ep]) ∧ Below W.heap.size W w') (hqp : ∀ (d : Nat) (W : World), (Op.equalIn (d + 3) 25 (.agg #[.int .u8 p0, .int .i64 p1, .int .i64 p2, .int .i64 p3, .int .i64 p4, .int .u8 p5, .int .u8 p6, .int .u8 p7, .int .u8 p8, .int .u8 p9, .int .u8 p10, .int .u8 p11, .int .u8 p12, .int .u8 p13, .int .u8 p14, .int .u8 p15, .int .u8 p16, .int .u8 p17, .int .u8 p18, .int .u8 p19, .int .u8 p20, .int .u8 p21, .int .u8 p22, .int .u8 p23, .int .u8 p24]) (.agg #[.int .u8 p0, .int .i64 p1, .int .i64 p2, .int .i64 p3, .int .i64 p4, .int .u8 p5, .int .u8 p6, .int .u8 p7, .int .u8 p8, .int .u8 p9, .int .u8 p10, .int .u8 p11, .int .u8 p12, .int .u8 p13, .int .u8 p14, .int .u8 p15, .int .u8 p16, .int .u8 p17, .int .u8 p18, .int .u8 p19, .int .u8 p20, .int .u8 p21, .int .u8 p22, .int .u8 p23, .int .u8 p24])).run Tryd.prog W = .ok true W) (hlen : ¬ 100 < l.length) :
    Calls Tryd.prog 3 #[.agg #[.int .u8 a0, .int .i64 a1, .int .i64 a2, .int .i64 a3, .int .i64 a4, .int .u8 a5, .int .u8 a6, .int .u8 a7, .int .u8 a8, .int .u8 a9, .int .u8 a10, .int .u8 a11, .int .u8 a12, .int .u8 a13, .int .u8 a14, .int .u8 a15, .int .u8 a16, .int .u8 a17, .int .u8 a18, .int .u8 a19, .int .u8 a20, .int .u8 a21, .int .u8 a22, .int .u8 a23, .int .u8 a24], .slice Ab l.length cb] w fun e w' => e = .returned (.bool true) ∧ Below w.heap.size w w' := by
  have HhT := Aside0.mk hT
  have Hhr := Aside0.mk hr
  have Hhbr := Aside0.mk hbr
  have Hhck := Aside0.mk hck
  have Hhcr := Aside0.mk hcr
  have Hhen := Aside0.mk hen
  have Hher := Aside0.mk her
  have Hhpb := Aside0.mk hpb
  have Hhpr := Aside0.mk hpr
  have Hhqp := Aside0.mk hqp
  clear hT hr hbr hck hcr hen her hpb hpr hqp
  have hl1 : (100 < (l.length : Int)) = False := eq_false (by omega)
  have hl2 : decide (100 < (l.length : Int)) = false := decide_eq_false (by omega)
  have HLN := Aside0.mk hlen
  clear hlen
  go_enter Tryd.func3, Tryd.ntmps3
  go_wp2_with (first | ((with_reducible refine gate_dst (N := 2) rfl ?_); refine box_event ?hg (N := 2) ?hd (cs := #[.int .u8 a0, .int .i64 a1, .int .i64 a2, .int .i64 a3, .int .i64 a4, .int .u8 a5, .int .u8 a6, .int .u8 a7, .int .u8 a8, .int .u8 a9, .int .u8 a10, .int .u8 a11, .int .u8 a12, .int .u8 a13, .int .u8 a14, .int .u8 a15, .int .u8 a16, .int .u8 a17, .int .u8 a18, .int .u8 a19, .int .u8 a20, .int .u8 a21, .int .u8 a22, .int .u8 a23, .int .u8 a24]) (t := 25) ?hr ?_; (case hd => rfl); (case hg => rfl); (case hr => first | (go_simp; done) | (go_simp; rfl)); intro g1 hgg1 w2 hhg1 hbg1; have H5 := Aside0.mk hhg1; have G3 : w.heap.size ≤ g1 := Nat.le_of_eq hgg1.symm; have B4 := Aside0.mk (hbg1); clear hgg1 hhg1 hbg1; have cv0 := conv_of (c := cb) (Kd.C_below Hhr.out B4.out)) | ((with_reducible refine gate_dst (N := 20) rfl ?_); refine loadG_event (T := 25) (by rfl) rfl rfl (run_loadVar_row _ _ _ _ _ (0, 0) _ H5.out Tryd.underlying25 rfl (by kernel_rfl)) ?_))
  refine (Hhen.out w2 (HhT.out.at B4.out)).mono ?_
  rintro e w6 ⟨v_, rfl, hR_, hb_⟩
  have B7 := Aside0.mk (below_step B4.out hb_)
  have H8 := Aside0.mk (blk_below H5.out hb_)
  clear hb_ B4 H5
  clear cv0
  obtain ⟨r9, c10, rfl, hle_, hC_⟩ := Kd.R_reads hR_
  have R11 := Aside0.mk hC_
  have L12 := Aside0.mk hle_
  clear hC_ hle_ hR_
  go_wp2_with (first | ((with_reducible refine gate_dst (N := 25) rfl ?_); refine loadG_event (T := 25) (by rfl) rfl rfl (run_loadVar_row _ _ _ _ _ (0, 0) _ H8.out Tryd.underlying25 rfl (by kernel_rfl)) ?_))
  refine (Hher.out w6 (HhT.out.at B7.out)).mono ?_
  rintro e w13 ⟨v_, rfl, hR_, hb_⟩
  have B14 := Aside0.mk (below_step B7.out hb_)
  have B15 := Aside0.mk (hb_)
  have H16 := Aside0.mk (blk_below H8.out hb_)
  clear hb_ B7 H8
  obtain ⟨r17, c18, rfl, hle_, hC_⟩ := Kd.R_reads hR_
  have R19 := Aside0.mk hC_
  have L20 := Aside0.mk hle_
  clear hC_ hle_ hR_
  go_wp2_with fail
  refine (Hhpb.out w13 (HhT.out.at B14.out) B14.out).mono ?_
  rintro e w21 ⟨rfl, hb_⟩
  have B22 := Aside0.mk (below_step B14.out hb_)
  have B23 := Aside0.mk (below_step B15.out hb_)
  have B24 := Aside0.mk (hb_)
  have H25 := Aside0.mk (blk_below H16.out hb_)
  clear hb_ B14 B15 H16
  go_wp2_with (first | ((with_reducible refine gate_dst (N := 10) rfl ?_); refine box_event ?hg (N := 10) ?hd (cs := #[.int .u8 0, .int .i64 0, .int .i64 0, .int .i64 0, .int .i64 0, .int .u8 0, .int .u8 0, .int .u8 0, .int .u8 0, .int .u8 0, .int .u8 0, .int .u8 0, .int .u8 0, .int .u8 0, .int .u8 0, .int .u8 0, .int .u8 0, .int .u8 0, .int .u8 0, .int .u8 0, .int .u8 0, .int .u8 0, .int .u8 0, .int .u8 0, .int .u8 0]) (t := 25) ?hr ?_; (case hd => rfl); (case hg => rfl); (case hr => first | (go_simp; done) | (go_simp; rfl)); intro g26 hgg26 w27 hhg26 hbg26; have H36 := Aside0.mk hhg26; have N28 : g1 ≠ g26 := Nat.ne_of_lt (Nat.lt_of_lt_of_eq (blk_lt H25.out) hgg26.symm); have G29 : w.heap.size ≤ g26 := Nat.le_trans B22.out.size (Nat.le_of_eq hgg26.symm); have G30 : w6.heap.size ≤ g26 := Nat.le_trans B23.out.size (Nat.le_of_eq hgg26.symm); have G31 : w13.heap.size ≤ g26 := Nat.le_trans B24.out.size (Nat.le_of_eq hgg26.symm); have B32 := Aside0.mk (below_step B22.out hbg26); have B33 := Aside0.mk (below_step B23.out hbg26); have B34 := Aside0.mk (below_step B24.out hbg26); have H35 := Aside0.mk (blk_below H25.out hbg26); clear hgg26 hhg26 hbg26 B22 B23 B24 H25) | ((with_reducible refine gate_store (t := 25) (p := _) rfl ?_); refine storeN_event (T := 25) rfl rfl rfl rfl rfl (storeVar_blk H36.out 25 0 [.int .u8 p0, .int .i64 p1, .int .i64 p2, .int .i64 p3, .int .i64 p4, .int .u8 p5, .int .u8 p6, .int .u8 p7, .int .u8 p8, .int .u8 p9, .int .u8 p10, .int .u8 p11, .int .u8 p12, .int .u8 p13, .int .u8 p14, .int .u8 p15, .int .u8 p16, .int .u8 p17, .int .u8 p18, .int .u8 p19, .int .u8 p20, .int .u8 p21, .int .u8 p22, .int .u8 p23, .int .u8 p24] (by kernel_rfl) rfl (by simp)) ?_; have H38 := Aside0.mk (show (World.setCells w27 g26 0 [.int .u8 p0, .int .i64 p1, .int .i64 p2, .int .i64 p3, .int .i64 p4, .int .u8 p5, .int .u8 p6, .int .u8 p7, .int .u8 p8, .int .u8 p9, .int .u8 p10, .int .u8 p11, .int .u8 p12, .int .u8 p13, .int .u8 p14, .int .u8 p15, .int .u8 p16, .int .u8 p17, .int .u8 p18, .int .u8 p19, .int .u8 p20, .int .u8 p21, .int .u8 p22, .int .u8 p23, .int .u8 p24]).heap[g26]? = some (.cells #[.int .u8 p0, .int .i64 p1, .int .i64 p2, .int .i64 p3, .int .i64 p4, .int .u8 p5, .int .u8 p6, .int .u8 p7, .int .u8 p8, .int .u8 p9, .int .u8 p10, .int .u8 p11, .int .u8 p12, .int .u8 p13, .int .u8 p14, .int .u8 p15, .int .u8 p16, .int .u8 p17, .int .u8 p18, .int .u8 p19, .int .u8 p20, .int .u8 p21, .int .u8 p22, .int .u8 p23, .int .u8 p24] 25 (0, 0)) from blk_setCells [] [.int .u8 p0, .int .i64 p1, .int .i64 p2, .int .i64 p3, .int .i64 p4, .int .u8 p5, .int .u8 p6, .int .u8 p7, .int .u8 p8, .int .u8 p9, .int .u8 p10, .int .u8 p11, .int .u8 p12, .int .u8 p13, .int .u8 p14, .int .u8 p15, .int .u8 p16, .int .u8 p17, .int .u8 p18, .int .u8 p19, .int .u8 p20, .int .u8 p21, .int .u8 p22, .int .u8 p23, .int .u8 p24] [.int .u8 0, .int .i64 0, .int .i64 0, .int .i64 0, .int .i64 0, .int .u8 0, .int .u8 0, .int .u8 0, .int .u8 0, .int .u8 0, .int .u8 0, .int .u8 0, .int .u8 0, .int .u8 0, .int .u8 0, .int .u8 0, .int .u8 0, .int .u8 0, .int .u8 0, .int .u8 0, .int .u8 0, .int .u8 0, .int .u8 0, .int .u8 0, .int .u8 0] [] w27 rfl H36.out); have H39 := Aside0.mk (far_setCells N28 [.int .u8 p0, .int .i64 p1, .int .i64 p2, .int .i64 p3, .int .i64 p4, .int .u8 p5, .int .u8 p6, .int .u8 p7, .int .u8 p8, .int .u8 p9, .int .u8 p10, .int .u8 p11, .int .u8 p12, .int .u8 p13, .int .u8 p14, .int .u8 p15, .int .u8 p16, .int .u8 p17, .int .u8 p18, .int .u8 p19, .int .u8 p20, .int .u8 p21, .int .u8 p22, .int .u8 p23, .int .u8 p24] 0 w27 H35.out); have B40 := Aside0.mk (below_setCells G29 [.int .u8 p0, .int .i64 p1, .int .i64 p2, .int .i64 p3, .int .i64 p4, .int .u8 p5, .int .u8 p6, .int .u8 p7, .int .u8 p8, .int .u8 p9, .int .u8 p10, .int .u8 p11, .int .u8 p12, .int .u8 p13, .int .u8 p14, .int .u8 p15, .int .u8 p16, .int .u8 p17, .int .u8 p18, .int .u8 p19, .int .u8 p20, .int .u8 p21, .int .u8 p22, .int .u8 p23, .int .u8 p24] 0 w27 B32.out); have B41 := Aside0.mk (below_setCells G30 [.int .u8 p0, .int .i64 p1, .int .i64 p2, .int .i64 p3, .int .i64 p4, .int .u8 p5, .int .u8 p6, .int .u8 p7, .int .u8 p8, .int .u8 p9, .int .u8 p10, .int .u8 p11, .int .u8 p12, .int .u8 p13, .int .u8 p14, .int .u8 p15, .int .u8 p16, .int .u8 p17, .int .u8 p18, .int .u8 p19, .int .u8 p20, .int .u8 p21, .int .u8 p22, .int .u8 p23, .int .u8 p24] 0 w27 B33.out); have B42 := Aside0.mk (below_setCells G31 [.int .u8 p0, .int .i64 p1, .int .i64 p2, .int .i64 p3, .int .i64 p4, .int .u8 p5, .int .u8 p6, .int .u8 p7, .int .u8 p8, .int .u8 p9, .int .u8 p10, .int .u8 p11, .int .u8 p12, .int .u8 p13, .int .u8 p14, .int .u8 p15, .int .u8 p16, .int .u8 p17, .int .u8 p18, .int .u8 p19, .int .u8 p20, .int .u8 p21, .int .u8 p22, .int .u8 p23, .int .u8 p24] 0 w27 B34.out); clear H36 H35 B32 B33 B34; generalize World.setCells w27 g26 0 [.int .u8 p0, .int .i64 p1, .int .i64 p2, .int .i64 p3, .int .i64 p4, .int .u8 p5, .int .u8 p6, .int .u8 p7, .int .u8 p8, .int .u8 p9, .int .u8 p10, .int .u8 p11, .int .u8 p12, .int .u8 p13, .int .u8 p14, .int .u8 p15, .int .u8 p16, .int .u8 p17, .int .u8 p18, .int .u8 p19, .int .u8 p20, .int .u8 p21, .int .u8 p22, .int .u8 p23, .int .u8 p24] = w37 at H39 H38 B40 B41 B42 ⊢) | ((with_reducible refine gate_dst (N := 36) rfl ?_); refine strbytes_event rfl rfl rfl Hhbr.out (by have := HLN.out; omega) ?_; intro gs cs w43 hbs_ hle_ hC_; have B44 := Aside0.mk (below_step B40.out hbs_); have B45 := Aside0.mk (below_step B41.out hbs_); have B46 := Aside0.mk (below_step B42.out hbs_); have H47 := Aside0.mk (blk_below H39.out hbs_); have H48 := Aside0.mk (blk_below H38.out hbs_); have RS := Aside0.mk hC_; have LS := Aside0.mk hle_; clear hbs_ hle_ hC_ B40 B41 B42 H39 H38))
  refine (Hhpr.out w43 gs cs LS.out RS.out).mono ?_
  rintro e w49 ⟨rfl, hb_⟩
  have B50 := Aside0.mk (below_step B44.out hb_)
  have B51 := Aside0.mk (below_step B45.out hb_)
  have B52 := Aside0.mk (below_step B46.out hb_)
  have H53 := Aside0.mk (blk_below H47.out hb_)
  have H54 := Aside0.mk (blk_below H48.out hb_)
  clear hb_ B44 B45 B46 H47 H48
  go_wp2_with (first | ((with_reducible refine gate_dst (N := 12) rfl ?_); refine box_event ?hg (N := 12) ?hd (cs := #[.int .u8 0, .int .i64 0, .int .i64 0, .int .i64 0, .int .i64 0, .int .u8 0, .int .u8 0, .int .u8 0, .int .u8 0, .int .u8 0, .int .u8 0, .int .u8 0, .int .u8 0, .int .u8 0, .int .u8 0, .int .u8 0, .int .u8 0, .int .u8 0, .int .u8 0, .int .u8 0, .int .u8 0, .int .u8 0, .int .u8 0, .int .u8 0, .int .u8 0]) (t := 25) ?hr ?_; (case hd => rfl); (case hg => rfl); (case hr => first | (go_simp; done) | (go_simp; rfl)); intro g55 hgg55 w56 hhg55 hbg55; have H67 := Aside0.mk hhg55; have N57 : g1 ≠ g55 := Nat.ne_of_lt (Nat.lt_of_lt_of_eq (blk_lt H53.out) hgg55.symm); have N58 : g26 ≠ g55 := Nat.ne_of_lt (Nat.lt_of_lt_of_eq (blk_lt H54.out) hgg55.symm); have G59 : w.heap.size ≤ g55 := Nat.le_trans B50.out.size (Nat.le_of_eq hgg55.symm); have G60 : w6.heap.size ≤ g55 := Nat.le_trans B51.out.size (Nat.le_of_eq hgg55.symm); have G61 : w13.heap.size ≤ g55 := Nat.le_trans B52.out.size (Nat.le_of_eq hgg55.symm); have B62 := Aside0.mk (below_step B50.out hbg55); have B63 := Aside0.mk (below_step B51.out hbg55); have B64 := Aside0.mk (below_step B52.out hbg55); have H65 := Aside0.mk (blk_below H53.out hbg55); have H66 := Aside0.mk (blk_below H54.out hbg55); clear hgg55 hhg55 hbg55 B50 B51 B52 H53 H54) | ((with_reducible refine gate_store (t := 25) (p := _) rfl ?_); refine storeN_event (T := 25) rfl rfl rfl rfl rfl (storeVar_blk H67.out 25 0 [.int .u8 p0, .int .i64 p1, .int .i64 p2, .int .i64 p3, .int .i64 p4, .int .u8 p5, .int .u8 p6, .int .u8 p7, .int .u8 p8, .int .u8 p9, .int .u8 p10, .int .u8 p11, .int .u8 p12, .int .u8 p13, .int .u8 p14, .int .u8 p15, .int .u8 p16, .int .u8 p17, .int .u8 p18, .int .u8 p19, .int .u8 p20, .int .u8 p21, .int .u8 p22, .int .u8 p23, .int .u8 p24] (by kernel_rfl) rfl (by simp)) ?_; have H69 := Aside0.mk (show (World.setCells w56 g55 0 [.int .u8 p0, .int .i64 p1, .int .i64 p2, .int .i64 p3, .int .i64 p4, .int .u8 p5, .int .u8 p6, .int .u8 p7, .int .u8 p8, .int .u8 p9, .int .u8 p10, .int .u8 p11, .int .u8 p12, .int .u8 p13, .int .u8 p14, .int .u8 p15, .int .u8 p16, .int .u8 p17, .int .u8 p18, .int .u8 p19, .int .u8 p20, .int .u8 p21, .int .u8 p22, .int .u8 p23, .int .u8 p24]).heap[g55]? = some (.cells #[.int .u8 p0, .int .i64 p1, .int .i64 p2, .int .i64 p3, .int .i64 p4, .int .u8 p5, .int .u8 p6, .int .u8 p7, .int .u8 p8, .int .u8 p9, .int .u8 p10, .int .u8 p11, .int .u8 p12, .int .u8 p13, .int .u8 p14, .int .u8 p15, .int .u8 p16, .int .u8 p17, .int .u8 p18, .int .u8 p19, .int .u8 p20, .int .u8 p21, .int .u8 p22, .int .u8 p23, .int .u8 p24] 25 (0, 0)) from blk_setCells [] [.int .u8 p0, .int .i64 p1, .int .i64 p2, .int .i64 p3, .int .i64 p4, .int .u8 p5, .int .u8 p6, .int .u8 p7, .int .u8 p8, .int .u8 p9, .int .u8 p10, .int .u8 p11, .int .u8 p12, .int .u8 p13, .int .u8 p14, .int .u8 p15, .int .u8 p16, .int .u8 p17, .int .u8 p18, .int .u8 p19, .int .u8 p20, .int .u8 p21, .int .u8 p22, .int .u8 p23, .int .u8 p24] [.int .u8 0, .int .i64 0, .int .i64 0, .int .i64 0, .int .i64 0, .int .u8 0, .int .u8 0, .int .u8 0, .int .u8 0, .int .u8 0, .int .u8 0, .int .u8 0, .int .u8 0, .int .u8 0, .int .u8 0, .int .u8 0, .int .u8 0, .int .u8 0, .int .u8 0, .int .u8 0, .int .u8 0, .int .u8 0, .int .u8 0, .int .u8 0, .int .u8 0] [] w56 rfl H67.out); have H70 := Aside0.mk (far_setCells N57 [.int .u8 p0, .int .i64 p1, .int .i64 p2, .int .i64 p3, .int .i64 p4, .int .u8 p5, .int .u8 p6, .int .u8 p7, .int .u8 p8, .int .u8 p9, .int .u8 p10, .int .u8 p11, .int .u8 p12, .int .u8 p13, .int .u8 p14, .int .u8 p15, .int .u8 p16, .int .u8 p17, .int .u8 p18, .int .u8 p19, .int .u8 p20, .int .u8 p21, .int .u8 p22, .int .u8 p23, .int .u8 p24] 0 w56 H65.out); have H71 := Aside0.mk (far_setCells N58 [.int .u8 p0, .int .i64 p1, .int .i64 p2, .int .i64 p3, .int .i64 p4, .int .u8 p5, .int .u8 p6, .int .u8 p7, .int .u8 p8, .int .u8 p9, .int .u8 p10, .int .u8 p11, .int .u8 p12, .int .u8 p13, .int .u8 p14, .int .u8 p15, .int .u8 p16, .int .u8 p17, .int .u8 p18, .int .u8 p19, .int .u8 p20, .int .u8 p21, .int .u8 p22, .int .u8 p23, .int .u8 p24] 0 w56 H66.out); have B72 := Aside0.mk (below_setCells G59 [.int .u8 p0, .int .i64 p1, .int .i64 p2, .int .i64 p3, .int .i64 p4, .int .u8 p5, .int .u8 p6, .int .u8 p7, .int .u8 p8, .int .u8 p9, .int .u8 p10, .int .u8 p11, .int .u8 p12, .int .u8 p13, .int .u8 p14, .int .u8 p15, .int .u8 p16, .int .u8 p17, .int .u8 p18, .int .u8 p19, .int .u8 p20, .int .u8 p21, .int .u8 p22, .int .u8 p23, .int .u8 p24] 0 w56 B62.out); have B73 := Aside0.mk (below_setCells G60 [.int .u8 p0, .int .i64 p1, .int .i64 p2, .int .i64 p3, .int .i64 p4, .int .u8 p5, .int .u8 p6, .int .u8 p7, .int .u8 p8, .int .u8 p9, .int .u8 p10, .int .u8 p11, .int .u8 p12, .int .u8 p13, .int .u8 p14, .int .u8 p15, .int .u8 p16, .int .u8 p17, .int .u8 p18, .int .u8 p19, .int .u8 p20, .int .u8 p21, .int .u8 p22, .int .u8 p23, .int .u8 p24] 0 w56 B63.out); have B74 := Aside0.mk (below_setCells G61 [.int .u8 p0, .int .i64 p1, .int .i64 p2, .int .i64 p3, .int .i64 p4, .int .u8 p5, .int .u8 p6, .int .u8 p7, .int .u8 p8, .int .u8 p9, .int .u8 p10, .int .u8 p11, .int .u8 p12, .int .u8 p13, .int .u8 p14, .int .u8 p15, .int .u8 p16, .int .u8 p17, .int .u8 p18, .int .u8 p19, .int .u8 p20, .int .u8 p21, .int .u8 p22, .int .u8 p23, .int .u8 p24] 0 w56 B64.out); clear H67 H65 H66 B62 B63 B64; generalize World.setCells w56 g55 0 [.int .u8 p0, .int .i64 p1, .int .i64 p2, .int .i64 p3, .int .i64 p4, .int .u8 p5, .int .u8 p6, .int .u8 p7, .int .u8 p8, .int .u8 p9, .int .u8 p10, .int .u8 p11, .int .u8 p12, .int .u8 p13, .int .u8 p14, .int .u8 p15, .int .u8 p16, .int .u8 p17, .int .u8 p18, .int .u8 p19, .int .u8 p20, .int .u8 p21, .int .u8 p22, .int .u8 p23, .int .u8 p24] = w68 at H70 H71 H69 B72 B73 B74 ⊢))
  have QH70 := Aside0.mk (blk_drew H70.out)
  have QH71 := Aside0.mk (blk_drew H71.out)
  have QH69 := Aside0.mk (blk_drew H69.out)
  have QB72 := Aside0.mk (below_drew B72.out)
  have QB73 := Aside0.mk (below_drew B73.out)
  have QB74 := Aside0.mk (below_drew B74.out)
  clear H70 H71 H69 B72 B73 B74
  have hqp := Hhqp.out
  refine start_ (n := 34) (S := fun w' => (loadVar 25 ⟨g1, 0, none⟩).run Tryd.prog w' = .ok (.agg #[.int .u8 a0, .int .i64 a1, .int .i64 a2, .int .i64 a3, .int .i64 a4, .int .u8 a5, .int .u8 a6, .int .u8 a7, .int .u8 a8, .int .u8 a9, .int .u8 a10, .int .u8 a11, .int .u8 a12, .int .u8 a13, .int .u8 a14, .int .u8 a15, .int .u8 a16, .int .u8 a17, .int .u8 a18, .int .u8 a19, .int .u8 a20, .int .u8 a21, .int .u8 a22, .int .u8 a23, .int .u8 a24]) w' ∧ (convert 26 9 (.slice r9 xa.length c10)).run Tryd.prog w' = .ok (.string (strOfNums xa)) w' ∧ (convert 26 9 (.slice r17 xa.length c18)).run Tryd.prog w' = .ok (.string (strOfNums xa)) w' ∧ (loadVar 25 ⟨g26, 0, none⟩).run Tryd.prog w' = .ok (.agg #[.int .u8 p0, .int .i64 p1, .int .i64 p2, .int .i64 p3, .int .i64 p4, .int .u8 p5, .int .u8 p6, .int .u8 p7, .int .u8 p8, .int .u8 p9, .int .u8 p10, .int .u8 p11, .int .u8 p12, .int .u8 p13, .int .u8 p14, .int .u8 p15, .int .u8 p16, .int .u8 p17, .int .u8 p18, .int .u8 p19, .int .u8 p20, .int .u8 p21, .int .u8 p22, .int .u8 p23, .int .u8 p24]) w' ∧ (loadVar 25 ⟨g55, 0, none⟩).run Tryd.prog w' = .ok (.agg #[.int .u8 p0, .int .i64 p1, .int .i64 p2, .int .i64 p3, .int .i64 p4, .int .u8 p5, .int .u8 p6, .int .u8 p7, .int .u8 p8, .int .u8 p9, .int .u8 p10, .int .u8 p11, .int .u8 p12, .int .u8 p13, .int .u8 p14, .int .u8 p15, .int .u8 p16, .int .u8 p17, .int .u8 p18, .int .u8 p19, .int .u8 p20, .int .u8 p21, .int .u8 p22, .int .u8 p23, .int .u8 p24]) w' ∧ (convert 26 9 (.slice Ab l.length cb)).run Tryd.prog w' = .ok (.string (strOfNums l)) w') (ds := []) #[false, false, false, false, false, false, false, false, false, false, false, false, false, false, false, false, false, false, false, false, false, false, false, false, false, false, false, false, false, false, false, false, false, false] (by kernel_rfl) rfl rfl ⟨(run_loadVar_row _ _ _ _ _ (0, 0) _ QH70.out Tryd.underlying25 rfl (by kernel_rfl)), (conv_of (Kd.C_below R11.out QB73.out)), (conv_of (Kd.C_below R19.out QB74.out)), (run_loadVar_row _ _ _ _ _ (0, 0) _ QH71.out Tryd.underlying25 rfl (by kernel_rfl)), (run_loadVar_row _ _ _ _ _ (0, 0) _ QH69.out Tryd.underlying25 rfl (by kernel_rfl)), (conv_of (Kd.C_below Hhr.out QB72.out))⟩ (fun hHeld => ?_)
  generalize World.drew w68 = w75 at QH70 QH71 QH69 QB72 QB73 QB74 hHeld ⊢
  refine take_ (i := 0) (N := some 40) (v := ?_) (a' := ?_) #[true, false, false, false, false, false, false, false, false, false, false, false, false, false, false, false, false, false, false, false, false, false, false, false, false, false, false, false, false, false, false, false, false, false] rfl rfl (by kernel_rfl) (fun _ _ _ h => h) (Or.inl ⟨by rfl, ?_⟩) hHeld ?_ ?_
  rotate_left
  · rintro w' ⟨s0, s1, s2, s3, s4, s5⟩
    refine (loadN_run (T := 25) rfl rfl s0).trans ?_
    with_reducible rfl
  rotate_left
  · simp only [Act.put, List.setIfInBounds_toArray, List.set_cons_zero, List.set_cons_succ, i64_w, i32_w]
    rfl
  refine take_ (i := 2) (N := some 42) (v := ?_) (a' := ?_) #[true, false, true, false, false, false, false, false, false, false, false, false, false, false, false, false, false, false, false, false, false, false, false, false, false, false, false, false, false, false, false, false, false, false] rfl rfl (by kernel_rfl) (fun _ _ _ h => h) (Or.inl ⟨by rfl, ?_⟩) hHeld ?_ ?_
  rotate_left
  · rintro w' ⟨s0, s1, s2, s3, s4, s5⟩
    refine (loadN_run (T := 25) rfl rfl s0).trans ?_
    with_reducible rfl
  rotate_left
  · simp only [Act.put, List.setIfInBounds_toArray, List.set_cons_zero, List.set_cons_succ, i64_w, i32_w]
    rfl
  refine one_ (i := 1) (N := some 41) #[true, true, true, false, false, false, false, false, false, false, false, false, false, false, false, false, false, false, false, false, false, false, false, false, false, false, false, false, false, false, false, false, false, false] rfl rfl (by kernel_rfl) (by decide) (fun K hK => ?_)
  refine goes_ Tryd.func25 (by kernel_rfl) rfl #[.agg #[.int .u8 a0, .int .i64 a1, .int .i64 a2, .int .i64 a3, .int .i64 a4, .int .u8 a5, .int .u8 a6, .int .u8 a7, .int .u8 a8, .int .u8 a9, .int .u8 a10, .int .u8 a11, .int .u8 a12, .int .u8 a13, .int .u8 a14, .int .u8 a15, .int .u8 a16, .int .u8 a17, .int .u8 a18, .int .u8 a19, .int .u8 a20, .int .u8 a21, .int .u8 a22, .int .u8 a23, .int .u8 a24]] (by rfl) rfl rfl (by simp only [List.map_toArray, List.map_cons, List.map_nil]; rfl) ?_
  with_reducible refine (Hhck.out w75).mono ?_
  rintro e w76 ⟨rfl, hb_⟩
  refine ⟨_, rfl, ?_⟩
  have B77 := Aside0.mk (below_step QB72.out hb_)
  have B78 := Aside0.mk (below_step QB73.out hb_)
  have B79 := Aside0.mk (below_step QB74.out hb_)
  have H80 := Aside0.mk (blk_below QH70.out hb_)
  have H81 := Aside0.mk (blk_below QH71.out hb_)
  have H82 := Aside0.mk (blk_below QH69.out hb_)
  clear hb_ QB72 QB73 QB74 QH70 QH71 QH69
  refine hK.out _ _ ⟨(run_loadVar_row _ _ _ _ _ (0, 0) _ H80.out Tryd.underlying25 rfl (by kernel_rfl)), (conv_of (Kd.C_below R11.out B78.out)), (conv_of (Kd.C_below R19.out B79.out)), (run_loadVar_row _ _ _ _ _ (0, 0) _ H81.out Tryd.underlying25 rfl (by kernel_rfl)), (run_loadVar_row _ _ _ _ _ (0, 0) _ H82.out Tryd.underlying25 rfl (by kernel_rfl)), (conv_of (Kd.C_below Hhr.out B77.out))⟩ (fun hHeld => ?_)
  clear hK K
  refine norm_ (a' := ?_) ?_ ?_
  rotate_left
  · show Act.put _ (some 41) _ = _
    simp only [Act.put, List.setIfInBounds_toArray, List.set_cons_zero, List.set_cons_succ, i64_w, i32_w]
    rfl
  refine one_ (i := 3) (N := some 43) #[true, true, true, true, false, false, false, false, false, false, false, false, false, false, false, false, false, false, false, false, false, false, false, false, false, false, false, false, false, false, false, false, false, false] rfl rfl (by kernel_rfl) (by decide) (fun K hK => ?_)
  refine goes_ Tryd.func26 (by kernel_rfl) rfl #[.agg #[.int .u8 a0, .int .i64 a1, .int .i64 a2, .int .i64 a3, .int .i64 a4, .int .u8 a5, .int .u8 a6, .int .u8 a7, .int .u8 a8, .int .u8 a9, .int .u8 a10, .int .u8 a11, .int .u8 a12, .int .u8 a13, .int .u8 a14, .int .u8 a15, .int .u8 a16, .int .u8 a17, .int .u8 a18, .int .u8 a19, .int .u8 a20, .int .u8 a21, .int .u8 a22, .int .u8 a23, .int .u8 a24]] (by rfl) rfl rfl (by simp only [List.map_toArray, List.map_cons, List.map_nil]; rfl) ?_
  with_reducible refine (Hhcr.out w76).mono ?_
  rintro e w83 ⟨rfl, hb_⟩
  refine ⟨_, rfl, ?_⟩
  have B84 := Aside0.mk (below_step B77.out hb_)
  have B85 := Aside0.mk (below_step B78.out hb_)
  have B86 := Aside0.mk (below_step B79.out hb_)
  have H87 := Aside0.mk (blk_below H80.out hb_)
  have H88 := Aside0.mk (blk_below H81.out hb_)
  have H89 := Aside0.mk (blk_below H82.out hb_)
  clear hb_ B77 B78 B79 H80 H81 H82
  refine hK.out _ _ ⟨(run_loadVar_row _ _ _ _ _ (0, 0) _ H87.out Tryd.underlying25 rfl (by kernel_rfl)), (conv_of (Kd.C_below R11.out B85.out)), (conv_of (Kd.C_below R19.out B86.out)), (run_loadVar_row _ _ _ _ _ (0, 0) _ H88.out Tryd.underlying25 rfl (by kernel_rfl)), (run_loadVar_row _ _ _ _ _ (0, 0) _ H89.out Tryd.underlying25 rfl (by kernel_rfl)), (conv_of (Kd.C_below Hhr.out B84.out))⟩ (fun hHeld => ?_)
  clear hK K
  refine norm_ (a' := ?_) ?_ ?_
  rotate_left
  · show Act.put _ (some 43) _ = _
    simp only [Act.put, List.setIfInBounds_toArray, List.set_cons_zero, List.set_cons_succ, i64_w, i32_w]
    rfl
  refine pure_ (i := 4) (N := some 44) (v := ?_) (a' := ?_) #[true, true, true, true, true, false, false, false, false, false, false, false, false, false, false, false, false, false, false, false, false, false, false, false, false, false, false, false, false, false, false, false, false, false] rfl rfl (by kernel_rfl) (fun _ _ _ h => h) (Or.inl ⟨by rfl, ?_⟩) ?_ ?_
  rotate_left
  · intro w'
    go_simp
    with_reducible rfl
  rotate_left
  · simp only [Act.put, List.setIfInBounds_toArray, List.set_cons_zero, List.set_cons_succ, i64_w, i32_w]
    rfl
  refine pure_ (i := 5) (N := some 45) (v := ?_) (a' := ?_) #[true, true, true, true, true, true, false, false, false, false, false, false, false, false, false, false, false, false, false, false, false, false, false, false, false, false, false, false, false, false, false, false, false, false] rfl rfl (by kernel_rfl) (fun _ _ _ h => h) (Or.inl ⟨by rfl, ?_⟩) ?_ ?_
  rotate_left
  · intro w'
    go_simp
    with_reducible rfl
  rotate_left
  · simp only [Act.put, List.setIfInBounds_toArray, List.set_cons_zero, List.set_cons_succ, i64_w, i32_w]
    rfl
  refine pure_ (i := 6) (N := some 46) (v := ?_) (a' := ?_) #[true, true, true, true, true, true, true, false, false, false, false, false, false, false, false, false, false, false, false, false, false, false, false, false, false, false, false, false, false, false, false, false, false, false] rfl rfl (by kernel_rfl) (fun _ _ _ h => h) (Or.inl ⟨by rfl, ?_⟩) ?_ ?_
  rotate_left
  · intro w'
    go_simp
    with_reducible rfl
  rotate_left
  · simp only [Act.put, List.setIfInBounds_toArray, List.set_cons_zero, List.set_cons_succ, i64_w, i32_w]
    rfl
  refine pure_ (i := 8) (N := some 48) (v := ?_) (a' := ?_) #[true, true, true, true, true, true, true, false, true, false, false, false, false, false, false, false, false, false, false, false, false, false, false, false, false, false, false, false, false, false, false, false, false, false] rfl rfl (by kernel_rfl) (fun _ _ _ h => h) (Or.inl ⟨by rfl, ?_⟩) ?_ ?_
  rotate_left
  · intro w'
    go_simp
    with_reducible rfl
  rotate_left
  · simp only [Act.put, List.setIfInBounds_toArray, List.set_cons_zero, List.set_cons_succ, i64_w, i32_w]
    rfl
  refine take_ (i := 7) (N := some 47) (v := ?_) (a' := ?_) #[true, true, true, true, true, true, true, true, true, false, false, false, false, false, false, false, false, false, false, false, false, false, false, false, false, false, false, false, false, false, false, false, false, false] rfl rfl (by kernel_rfl) (fun _ _ _ h => h) (Or.inl ⟨by rfl, ?_⟩) hHeld ?_ ?_
  rotate_left
  · rintro w' ⟨s0, s1, s2, s3, s4, s5⟩
    go_simp
    with_reducible rfl
  rotate_left
  · simp only [Act.put, List.setIfInBounds_toArray, List.set_cons_zero, List.set_cons_succ, i64_w, i32_w]
    rfl
  refine take_ (i := 9) (N := some 49) (v := ?_) (a' := ?_) #[true, true, true, true, true, true, true, true, true, true, false, false, false, false, false, false, false, false, false, false, false, false, false, false, false, false, false, false, false, false, false, false, false, false] rfl rfl (by kernel_rfl) (fun _ _ _ h => h) (Or.inl ⟨by rfl, ?_⟩) hHeld ?_ ?_
  rotate_left
  · rintro w' ⟨s0, s1, s2, s3, s4, s5⟩
    go_simp
    with_reducible rfl
  rotate_left
  · simp only [Act.put, List.setIfInBounds_toArray, List.set_cons_zero, List.set_cons_succ, i64_w, i32_w]
    rfl
  refine pure_ (i := 10) (N := some 50) (v := ?_) (a' := ?_) #[true, true, true, true, true, true, true, true, true, true, true, false, false, false, false, false, false, false, false, false, false, false, false, false, false, false, false, false, false, false, false, false, false, false] rfl rfl (by kernel_rfl) (fun _ _ _ h => h) (Or.inl ⟨by rfl, ?_⟩) ?_ ?_
  rotate_left
  · intro w'
    go_simp
    with_reducible rfl
  rotate_left
  · simp only [Act.put, List.setIfInBounds_toArray, List.set_cons_zero, List.set_cons_succ, i64_w, i32_w]
    rfl
  refine pure_ (i := 11) (N := some 51) (v := ?_) (a' := ?_) #[true, true, true, true, true, true, true, true, true, true, true, true, false, false, false, false, false, false, false, false, false, false, false, false, false, false, false, false, false, false, false, false, false, false] rfl rfl (by kernel_rfl) (fun _ _ _ h => h) (Or.inl ⟨by rfl, ?_⟩) ?_ ?_
  rotate_left
  · intro w'
    go_simp
    with_reducible rfl
  rotate_left
  · simp only [Act.put, List.setIfInBounds_toArray, List.set_cons_zero, List.set_cons_succ, i64_w, i32_w]
    rfl
  refine pure_ (i := 12) (N := some 52) (v := ?_) (a' := ?_) #[true, true, true, true, true, true, true, true, true, true, true, true, true, false, false, false, false, false, false, false, false, false, false, false, false, false, false, false, false, false, false, false, false, false] rfl rfl (by kernel_rfl) (fun _ _ _ h => h) (Or.inl ⟨by rfl, ?_⟩) ?_ ?_
  rotate_left
  · intro w'
    go_simp
    with_reducible rfl
  rotate_left
  · simp only [Act.put, List.setIfInBounds_toArray, List.set_cons_zero, List.set_cons_succ, i64_w, i32_w]
    rfl
  refine pure_ (i := 13) (N := some 53) (v := ?_) (a' := ?_) #[true, true, true, true, true, true, true, true, true, true, true, true, true, true, false, false, false, false, false, false, false, false, false, false, false, false, false, false, false, false, false, false, false, false] rfl rfl (by kernel_rfl) (fun _ _ _ h => h) (Or.inl ⟨by rfl, ?_⟩) ?_ ?_
  rotate_left
  · intro w'
    go_simp
    with_reducible rfl
  rotate_left
  · simp only [Act.put, List.setIfInBounds_toArray, List.set_cons_zero, List.set_cons_succ, i64_w, i32_w]
    rfl
  refine pure_ (i := 14) (N := some 54) (v := ?_) (a' := ?_) #[true, true, true, true, true, true, true, true, true, true, true, true, true, true, true, false, false, false, false, false, false, false, false, false, false, false, false, false, false, false, false, false, false, false] rfl rfl (by kernel_rfl) (fun _ _ _ h => h) (Or.inl ⟨by rfl, ?_⟩) ?_ ?_
  rotate_left
  · intro w'
    go_simp
    with_reducible rfl
  rotate_left
  · simp only [Act.put, List.setIfInBounds_toArray, List.set_cons_zero, List.set_cons_succ, i64_w, i32_w]
    rfl
  refine pure_ (i := 15) (N := some 55) (v := ?_) (a' := ?_) #[true, true, true, true, true, true, true, true, true, true, true, true, true, true, true, true, false, false, false, false, false, false, false, false, false, false, false, false, false, false, false, false, false, false] rfl rfl (by kernel_rfl) (fun _ _ _ h => h) (Or.inl ⟨by rfl, ?_⟩) ?_ ?_
  rotate_left
  · intro w'
    go_simp
    with_reducible rfl
  rotate_left
  · simp only [Act.put, List.setIfInBounds_toArray, List.set_cons_zero, List.set_cons_succ, i64_w, i32_w]
    rfl
  refine pure_ (i := 16) (N := some 56) (v := ?_) (a' := ?_) #[true, true, true, true, true, true, true, true, true, true, true, true, true, true, true, true, true, false, false, false, false, false, false, false, false, false, false, false, false, false, false, false, false, false] rfl rfl (by kernel_rfl) (fun _ _ _ h => h) (Or.inl ⟨by rfl, ?_⟩) ?_ ?_
  rotate_left
  · intro w'
    go_simp
    with_reducible rfl
  rotate_left
  · simp only [Act.put, List.setIfInBounds_toArray, List.set_cons_zero, List.set_cons_succ, i64_w, i32_w]
    rfl
  refine pure_ (i := 17) (N := some 57) (v := ?_) (a' := ?_) #[true, true, true, true, true, true, true, true, true, true, true, true, true, true, true, true, true, true, false, false, false, false, false, false, false, false, false, false, false, false, false, false, false, false] rfl rfl (by kernel_rfl) (fun _ _ _ h => h) (Or.inl ⟨by rfl, ?_⟩) ?_ ?_
  rotate_left
  · intro w'
    go_simp
    with_reducible rfl
  rotate_left
  · simp only [Act.put, List.setIfInBounds_toArray, List.set_cons_zero, List.set_cons_succ, i64_w, i32_w]
    rfl
  refine take_ (i := 18) (N := some 58) (v := ?_) (a' := ?_) #[true, true, true, true, true, true, true, true, true, true, true, true, true, true, true, true, true, true, true, false, false, false, false, false, false, false, false, false, false, false, false, false, false, false] rfl rfl (by kernel_rfl) (fun _ _ _ h => h) (Or.inl ⟨by rfl, ?_⟩) hHeld ?_ ?_
  rotate_left
  · rintro w' ⟨s0, s1, s2, s3, s4, s5⟩
    refine (loadN_run (T := 25) rfl rfl s3).trans ?_
    with_reducible rfl
  rotate_left
  · simp only [Act.put, List.setIfInBounds_toArray, List.set_cons_zero, List.set_cons_succ, i64_w, i32_w]
    rfl
  refine take_ (i := 19) (N := some 59) (v := ?_) (a' := ?_) #[true, true, true, true, true, true, true, true, true, true, true, true, true, true, true, true, true, true, true, true, false, false, false, false, false, false, false, false, false, false, false, false, false, false] rfl rfl (by kernel_rfl) (fun _ _ _ h => h) (Or.inl ⟨by rfl, ?_⟩) hHeld ?_ ?_
  rotate_left
  · rintro w' ⟨s0, s1, s2, s3, s4, s5⟩
    refine (loadN_run (T := 25) rfl rfl s4).trans ?_
    with_reducible rfl
  rotate_left
  · simp only [Act.put, List.setIfInBounds_toArray, List.set_cons_zero, List.set_cons_succ, i64_w, i32_w]
    rfl
  refine pure_ (i := 20) (N := some 60) (v := ?_) (a' := ?_) #[true, true, true, true, true, true, true, true, true, true, true, true, true, true, true, true, true, true, true, true, true, false, false, false, false, false, false, false, false, false, false, false, false, false] rfl rfl (by kernel_rfl) (fun _ _ _ h => h) (Or.inl ⟨by rfl, ?_⟩) ?_ ?_
  rotate_left
  · intro w'
    go_simp
    with_reducible rfl
  rotate_left
  · simp only [Act.put, List.setIfInBounds_toArray, List.set_cons_zero, List.set_cons_succ, i64_w, i32_w]
    rfl
  refine pure_ (i := 21) (N := some 61) (v := ?_) (a' := ?_) #[true, true, true, true, true, true, true, true, true, true, true, true, true, true, true, true, true, true, true, true, true, true, false, false, false, false, false, false, false, false, false, false, false, false] rfl rfl (by kernel_rfl) (fun _ _ _ h => h) (Or.inl ⟨by rfl, ?_⟩) ?_ ?_
  rotate_left
  · intro w'
    go_simp
    with_reducible rfl
  rotate_left
  · simp only [Act.put, List.setIfInBounds_toArray, List.set_cons_zero, List.set_cons_succ, i64_w, i32_w]
    rfl
  refine pure_ (i := 22) (N := some 62) (v := ?_) (a' := ?_) #[true, true, true, true, true, true, true, true, true, true, true, true, true, true, true, true, true, true, true, true, true, true, true, false, false, false, false, false, false, false, false, false, false, false] rfl rfl (by kernel_rfl) (fun _ _ _ h => h) (Or.inl ⟨by rfl, ?_⟩) ?_ ?_
  rotate_left
  · intro w'
    go_simp
    with_reducible rfl
  rotate_left
  · simp only [Act.put, List.setIfInBounds_toArray, List.set_cons_zero, List.set_cons_succ, i64_w, i32_w]
    rfl
  refine pure_ (i := 23) (N := some 63) (v := ?_) (a' := ?_) #[true, true, true, true, true, true, true, true, true, true, true, true, true, true, true, true, true, true, true, true, true, true, true, true, false, false, false, false, false, false, false, false, false, false] rfl rfl (by kernel_rfl) (fun _ _ _ h => h) (Or.inl ⟨by rfl, ?_⟩) ?_ ?_
  rotate_left
  · intro w'
    go_simp
    with_reducible rfl
  rotate_left
  · simp only [Act.put, List.setIfInBounds_toArray, List.set_cons_zero, List.set_cons_succ, i64_w, i32_w]
    rfl
  refine pure_ (i := 24) (N := some 64) (v := ?_) (a' := ?_) #[true, true, true, true, true, true, true, true, true, true, true, true, true, true, true, true, true, true, true, true, true, true, true, true, true, false, false, false, false, false, false, false, false, false] rfl rfl (by kernel_rfl) (fun _ _ _ h => h) (Or.inl ⟨by rfl, ?_⟩) ?_ ?_
  rotate_left
  · intro w'
    go_simp
    with_reducible rfl
  rotate_left
  · simp only [Act.put, List.setIfInBounds_toArray, List.set_cons_zero, List.set_cons_succ, i64_w, i32_w]
    rfl
  refine pure_ (i := 25) (N := some 65) (v := ?_) (a' := ?_) #[true, true, true, true, true, true, true, true, true, true, true, true, true, true, true, true, true, true, true, true, true, true, true, true, true, true, false, false, false, false, false, false, false, false] rfl rfl (by kernel_rfl) (fun _ _ _ h => h) (Or.inl ⟨by rfl, ?_⟩) ?_ ?_
  rotate_left
  · intro w'
    go_simp
    with_reducible rfl
  rotate_left
  · simp only [Act.put, List.setIfInBounds_toArray, List.set_cons_zero, List.set_cons_succ, i64_w, i32_w]
    rfl
  refine pure_ (i := 26) (N := some 66) (v := ?_) (a' := ?_) #[true, true, true, true, true, true, true, true, true, true, true, true, true, true, true, true, true, true, true, true, true, true, true, true, true, true, true, false, false, false, false, false, false, false] rfl rfl (by kernel_rfl) (fun _ _ _ h => h) (Or.inl ⟨by rfl, ?_⟩) ?_ ?_
  rotate_left
  · intro w'
    go_simp
    with_reducible rfl
  rotate_left
  · simp only [Act.put, List.setIfInBounds_toArray, List.set_cons_zero, List.set_cons_succ, i64_w, i32_w]
    rfl
  refine pure_ (i := 27) (N := some 67) (v := ?_) (a' := ?_) #[true, true, true, true, true, true, true, true, true, true, true, true, true, true, true, true, true, true, true, true, true, true, true, true, true, true, true, true, false, false, false, false, false, false] rfl rfl (by kernel_rfl) (fun _ _ _ h => h) (Or.inl ⟨by rfl, ?_⟩) ?_ ?_
  rotate_left
  · intro w'
    go_simp
    with_reducible rfl
  rotate_left
  · simp only [Act.put, List.setIfInBounds_toArray, List.set_cons_zero, List.set_cons_succ, i64_w, i32_w]
    rfl
  refine pure_ (i := 28) (N := some 68) (v := ?_) (a' := ?_) #[true, true, true, true, true, true, true, true, true, true, true, true, true, true, true, true, true, true, true, true, true, true, true, true, true, true, true, true, true, false, false, false, false, false] rfl rfl (by kernel_rfl) (fun _ _ _ h => h) (Or.inl ⟨by rfl, ?_⟩) ?_ ?_
  rotate_left
  · intro w'
    go_simp
    with_reducible rfl
  rotate_left
  · simp only [Act.put, List.setIfInBounds_toArray, List.set_cons_zero, List.set_cons_succ, i64_w, i32_w]
    rfl
  refine pure_ (i := 30) (N := some 70) (v := ?_) (a' := ?_) #[true, true, true, true, true, true, true, true, true, true, true, true, true, true, true, true, true, true, true, true, true, true, true, true, true, true, true, true, true, false, true, false, false, false] rfl rfl (by kernel_rfl) (fun _ _ _ h => h) (Or.inl ⟨by rfl, ?_⟩) ?_ ?_
  rotate_left
  · intro w'
    go_simp
    with_reducible rfl
  rotate_left
  · simp only [Act.put, List.setIfInBounds_toArray, List.set_cons_zero, List.set_cons_succ, i64_w, i32_w]
    rfl
  refine take_ (i := 29) (N := some 69) (v := ?_) (a' := ?_) #[true, true, true, true, true, true, true, true, true, true, true, true, true, true, true, true, true, true, true, true, true, true, true, true, true, true, true, true, true, true, true, false, false, false] rfl rfl (by kernel_rfl) (fun _ _ _ h => h) (Or.inl ⟨by rfl, ?_⟩) hHeld ?_ ?_
  rotate_left
  · rintro w' ⟨s0, s1, s2, s3, s4, s5⟩
    go_simp
    with_reducible rfl
  rotate_left
  · simp only [Act.put, List.setIfInBounds_toArray, List.set_cons_zero, List.set_cons_succ, i64_w, i32_w]
    rfl
  refine pure_ (i := 31) (N := some 71) (v := ?_) (a' := ?_) #[true, true, true, true, true, true, true, true, true, true, true, true, true, true, true, true, true, true, true, true, true, true, true, true, true, true, true, true, true, true, true, true, false, false] rfl rfl (by kernel_rfl) (fun _ _ _ h => h) (Or.inl ⟨by rfl, ?_⟩) ?_ ?_
  rotate_left
  · intro w'
    go_simp
    with_reducible rfl
  rotate_left
  · simp only [Act.put, List.setIfInBounds_toArray, List.set_cons_zero, List.set_cons_succ, i64_w, i32_w]
    rfl
  refine pure_ (i := 32) (N := some 72) (v := ?_) (a' := ?_) #[true, true, true, true, true, true, true, true, true, true, true, true, true, true, true, true, true, true, true, true, true, true, true, true, true, true, true, true, true, true, true, true, true, false] rfl rfl (by kernel_rfl) (fun _ _ _ h => h) (Or.inl ⟨by rfl, ?_⟩) ?_ ?_
  rotate_left
  · intro w'
    go_simp
    with_reducible rfl
  rotate_left
  · simp only [Act.put, List.setIfInBounds_toArray, List.set_cons_zero, List.set_cons_succ, i64_w, i32_w]
    rfl
  refine pure_ (i := 33) (N := some 4) (v := ?_) (a' := ?_) #[true, true, true, true, true, true, true, true, true, true, true, true, true, true, true, true, true, true, true, true, true, true, true, true, true, true, true, true, true, true, true, true, true, true] rfl rfl (by kernel_rfl) (fun _ _ _ h => h) (Or.inl ⟨by rfl, ?_⟩) ?_ ?_
  rotate_left
  · intro w'
    go_simp
    with_reducible rfl
  rotate_left
  · simp only [Act.put, List.setIfInBounds_toArray, List.set_cons_zero, List.set_cons_succ, i64_w, i32_w]
    rfl
  refine done_ (by kernel_rfl) ?_
  go_wp2_with fail
  go_ret
  exact ⟨rfl, B84.out⟩
end Go.Proofs.YtbldecdipicddaaDoor.Hand
