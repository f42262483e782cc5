/- The reference's Front of a header. Written by wip/s1/mkfrontr.py. -/
import Derived.Test.YtbldecdipicddaaDoorRowForm
set_option linter.unusedSimpArgs false
set_option linter.unusedVariables false
namespace Go.Proofs.YtbldecdipicddaaDoor.Hand
open Go Go.RowKit Go.Proofs.YtbldecdipicddaaDoorW.PrintWords Go.Proofs.YtbldecdipicddaaDoorW.PrintLast Go.Proofs.YtbldecdipicddaaDoorW.PrintMore
set_option maxRecDepth 100000 in
theorem two_calls (x : Int) (w : World) : Calls Tryd.prog 101 #[.int .i64 x] w fun e w' => ∃ v0_ : Value, e = .returned v0_ ∧ Kd.R (Kd.int .u8) 5 w' w.heap.size (fun _ => True) v0_ [x / 256 % 256, x % 256] ∧ Below w.heap.size w w' := by
  go_enter Tryd.func101, Tryd.ntmps101
  go_wp2_with (first | ((with_reducible refine gate_dst (N := 8) rfl ?_); refine Kd.R_lit (Kd.int .u8) (w0 := w) _ 5 ?hg (N := 8) ?hd (xs := ([x / 256 % 256, x % 256] : List Int)) (inner := [.int .u8 (x / 256 % 256), .int .u8 (x % 256)]) (ok := fun _ => True) (okp := fun _ => True) ?hr ?hp (fun _ hk => hk) trivial (Below.refl _ _) (below_size (Below.refl _ _)) (by simp) ?_; (case hd => rfl); (case hg => rfl); (case hr => first | (go_simp; done) | (go_simp; rfl) | (go_simp; simp only [IntKind.wrap_u8]; done) | (go_simp; simp only [IntKind.wrap_u8]; rfl)); (case hp => exact reps_ints .u8 [x / 256 % 256, x % 256]); intro v2 w1 ho_ hb_ hg_ _; have HO3 := Aside0.mk ho_; have B4 := Aside0.mk hb_; clear ho_ hb_ hg_ ))
  go_ret
  exact ⟨_, rfl, HO3.out, B4.out⟩
set_option maxHeartbeats 800000 in
set_option maxRecDepth 100000 in
theorem rfront_calls (a0 a1 a2 a3 a4 a5 a6 a7 a8 a9 a10 a11 a12 a13 a14 a15 a16 a17 a18 a19 a20 a21 a22 a23 a24 : Int) (w : World) : Calls Tryd.prog 90 #[.agg #[.int .u8 a0, .int .i64 a1, .int .i64 a2, .int .i64 a3, .int .i64 a4, .int .u8 a5, .int .u8 a6, .int .u8 a7, .int .u8 a8, .int .u8 a9, .int .u8 a10, .int .u8 a11, .int .u8 a12, .int .u8 a13, .int .u8 a14, .int .u8 a15, .int .u8 a16, .int .u8 a17, .int .u8 a18, .int .u8 a19, .int .u8 a20, .int .u8 a21, .int .u8 a22, .int .u8 a23, .int .u8 a24]] w fun e w' => ∃ v0_ : Value, e = .returned v0_ ∧ Kd.R (Kd.int .u8) 5 w' w.heap.size (fun _ => True) v0_ ((([a0, a1 % 256] ++ [a2 / 256 % 256, a2 % 256]) ++ [a3 / 256 % 256, a3 % 256]) ++ [a4 / 256 % 256, a4 % 256]) ∧ Below w.heap.size w w' := by
  go_enter Tryd.func90, Tryd.ntmps90
  go_wp2_with (first | ((with_reducible refine gate_dst (N := 1) rfl ?_); refine box_event ?hg (N := 1) ?hd (cs := #[.int .u8 a0, .int .i64 a1, .int .i64 a2, .int .i64 a3, .int .i64 a4, .int .u8 a5, .int .u8 a6, .int .u8 a7, .int .u8 a8, .int .u8 a9, .int .u8 a10, .int .u8 a11, .int .u8 a12, .int .u8 a13, .int .u8 a14, .int .u8 a15, .int .u8 a16, .int .u8 a17, .int .u8 a18, .int .u8 a19, .int .u8 a20, .int .u8 a21, .int .u8 a22, .int .u8 a23, .int .u8 a24]) (t := 25) ?hr ?_; (case hd => rfl); (case hg => rfl); (case hr => first | (go_simp; done) | (go_simp; rfl)); intro g1 hgg1 w2 hhg1 hbg1; have H5 := Aside0.mk hhg1; have G3 : w.heap.size ≤ g1 := Nat.le_of_eq hgg1.symm; have B4 := Aside0.mk (hbg1); clear hgg1 hhg1 hbg1; have c5_0 : w2.cell? ⟨g1, 0, none⟩ = some (.int .u8 a0) := (blk_cell H5.out 0).trans rfl; have c5_1 : w2.cell? ⟨g1, 1, none⟩ = some (.int .i64 a1) := (blk_cell H5.out 1).trans rfl) | ((with_reducible refine gate_dst (N := 9) rfl ?_); refine Kd.R_lit (Kd.int .u8) (w0 := w) _ 5 ?hg (N := 9) ?hd (xs := ([a0, a1 % 256] : List Int)) (inner := [.int .u8 (a0), .int .u8 (a1 % 256)]) (ok := fun _ => True) (okp := fun _ => True) ?hr ?hp (fun _ hk => hk) trivial B4.out (below_size B4.out) (by simp) ?_; (case hd => rfl); (case hg => rfl); (case hr => first | (go_simp; done) | (go_simp; rfl) | (go_simp; simp only [IntKind.wrap_u8]; done) | (go_simp; simp only [IntKind.wrap_u8]; rfl)); (case hp => exact reps_ints .u8 [a0, a1 % 256]); intro v7 w6 ho_ hb_ hg_ _; have HO8 := Aside0.mk ho_; have H9 := Aside0.mk (blk_grown H5.out hg_ (by simp)); have B10 := Aside0.mk hb_; clear ho_ hb_ hg_ H5 B4; have c10_2 : w6.cell? ⟨g1, 2, none⟩ = some (.int .i64 a2) := (blk_cell H9.out 2).trans rfl))
  refine (two_calls a2 w6).mono ?_
  rintro e w11 ⟨v_, rfl, hR_, hb_⟩
  have B12 := Aside0.mk (below_step B10.out hb_)
  have H13 := Aside0.mk (blk_below H9.out hb_)
  have HO14 := Aside0.mk (Kd.R_below HO8.out hb_)
  clear hb_ B10 H9 HO8
  obtain ⟨r13, c_r13, rfl, hle_, hC_⟩ := row_formK (n := 2) hR_ (rfl) (by decide)
  have R15 := Aside0.mk hC_
  have L16 := Aside0.mk hle_
  clear hC_ hle_ hR_
  go_wp2_with (first | ((with_reducible refine gate_dst (N := 14) rfl ?_); (with_reducible refine gate_builtin (b := .append) (xs := #[.tmp 10, .tmp 13]) rfl ?_); at_builtin; refine Kd.R_append_rows (Kd.int .u8) (w0 := w) w.heap.size rfl (.tmp 10) (.tmp 13) 26 5 (.int .u8 0) 1 rfl Tryd.underlying26 info5p rfl (by decide) (by omega) _ [a0, a1 % 256] [a2 / 256 % 256, a2 % 256] _ _ _ (fun _ => True) (fun _ => False) rfl rfl ?aO ?aR (fun _ _ h => h) (fun _ h => h.elim) ?aF ?aB ?aS ?aL ?_; (case aR => exact (Kd.C_below R15.out (Below.refl _ _))); (case aB => exact B12.out); (case aF => exact (fun _ _ => trivial)); (case aO => exact HO14.out); (case aS => exact below_size B12.out); (case aL => simp); intro v18 w17 ho hb hg hat; have HO19 := Aside0.mk ho; have H20 := Aside0.mk (blk_grown H13.out hg (Kd.R_ne HO14.out H13.out (by decide))); have B21 := Aside0.mk hb; clear ho hb hg hat HO14 H13 B12; have c21_3 : w17.cell? ⟨g1, 3, none⟩ = some (.int .i64 a3) := (blk_cell H20.out 3).trans rfl))
  refine (two_calls a3 w17).mono ?_
  rintro e w22 ⟨v_, rfl, hR_, hb_⟩
  have B23 := Aside0.mk (below_step B21.out hb_)
  have H24 := Aside0.mk (blk_below H20.out hb_)
  have HO25 := Aside0.mk (Kd.R_below HO19.out hb_)
  clear hb_ B21 H20 HO19
  obtain ⟨r18, c_r18, rfl, hle_, hC_⟩ := row_formK (n := 2) hR_ (rfl) (by decide)
  have R26 := Aside0.mk hC_
  have L27 := Aside0.mk hle_
  clear hC_ hle_ hR_
  go_wp2_with (first | ((with_reducible refine gate_dst (N := 19) rfl ?_); (with_reducible refine gate_builtin (b := .append) (xs := #[.tmp 15, .tmp 18]) rfl ?_); at_builtin; refine Kd.R_append_rows (Kd.int .u8) (w0 := w) w.heap.size rfl (.tmp 15) (.tmp 18) 26 5 (.int .u8 0) 1 rfl Tryd.underlying26 info5p rfl (by decide) (by omega) _ ([a0, a1 % 256] ++ [a2 / 256 % 256, a2 % 256]) [a3 / 256 % 256, a3 % 256] _ _ _ (fun _ => True) (fun _ => False) rfl rfl ?aO ?aR (fun _ _ h => h) (fun _ h => h.elim) ?aF ?aB ?aS ?aL ?_; (case aR => exact (Kd.C_below R26.out (Below.refl _ _))); (case aB => exact B23.out); (case aF => exact (fun _ _ => trivial)); (case aO => exact HO25.out); (case aS => exact below_size B23.out); (case aL => simp); intro v29 w28 ho hb hg hat; have HO30 := Aside0.mk ho; have H31 := Aside0.mk (blk_grown H24.out hg (Kd.R_ne HO25.out H24.out (by decide))); have B32 := Aside0.mk hb; clear ho hb hg hat HO25 H24 B23; have c32_4 : w28.cell? ⟨g1, 4, none⟩ = some (.int .i64 a4) := (blk_cell H31.out 4).trans rfl))
  refine (two_calls a4 w28).mono ?_
  rintro e w33 ⟨v_, rfl, hR_, hb_⟩
  have B34 := Aside0.mk (below_step B32.out hb_)
  have H35 := Aside0.mk (blk_below H31.out hb_)
  have HO36 := Aside0.mk (Kd.R_below HO30.out hb_)
  clear hb_ B32 H31 HO30
  obtain ⟨r23, c_r23, rfl, hle_, hC_⟩ := row_formK (n := 2) hR_ (rfl) (by decide)
  have R37 := Aside0.mk hC_
  have L38 := Aside0.mk hle_
  clear hC_ hle_ hR_
  go_wp2_with (first | ((with_reducible refine gate_dst (N := 24) rfl ?_); (with_reducible refine gate_builtin (b := .append) (xs := #[.tmp 20, .tmp 23]) rfl ?_); at_builtin; refine Kd.R_append_rows (Kd.int .u8) (w0 := w) w.heap.size rfl (.tmp 20) (.tmp 23) 26 5 (.int .u8 0) 1 rfl Tryd.underlying26 info5p rfl (by decide) (by omega) _ (([a0, a1 % 256] ++ [a2 / 256 % 256, a2 % 256]) ++ [a3 / 256 % 256, a3 % 256]) [a4 / 256 % 256, a4 % 256] _ _ _ (fun _ => True) (fun _ => False) rfl rfl ?aO ?aR (fun _ _ h => h) (fun _ h => h.elim) ?aF ?aB ?aS ?aL ?_; (case aR => exact (Kd.C_below R37.out (Below.refl _ _))); (case aB => exact B34.out); (case aF => exact (fun _ _ => trivial)); (case aO => exact HO36.out); (case aS => exact below_size B34.out); (case aL => simp); intro v40 w39 ho hb hg hat; have HO41 := Aside0.mk ho; have H42 := Aside0.mk (blk_grown H35.out hg (Kd.R_ne HO36.out H35.out (by decide))); have B43 := Aside0.mk hb; clear ho hb hg hat HO36 H35 B34))
  go_ret
  exact ⟨_, rfl, HO41.out, B43.out⟩
end Go.Proofs.YtbldecdipicddaaDoor.Hand
