/- The contract of decoder.New. -/
import Derived.Test.YtgapkifgddjijaaHandStart
namespace Go.Proofs.Ytgapkifgddjijaa.Hand
open Go.RowKit Go.Proofs.YtgapkifgddjijaaW.PrintWords Go.Proofs.YtgapkifgddjijaaW.PrintLast Go.Proofs.YtgapkifgddjijaaW.PrintMore
open Go.Proofs.Ytgapkifgddjijaa.QE

def Newf (k : Nat) (l : List Int) : Option (Int × Int × Int × List Int × Int × Int) :=
  if 20000 < l.length then some (0, 0, 0, ([] : List Int), 0, 4) else (startl k 0 l 0).bind fun q => some (0, 4294967295, q.1, l, q.2, 0)

set_option maxHeartbeats 1600000 in
set_option maxRecDepth 100000 in
theorem New_calls (k : Nat) (A : Option Addr) (c : Nat) (l : List Int) (r1 r2 r3 : Int) (r4 : List Int) (r5 r6 : Int) (w : World)
    (hr : Kd.C (Kd.int .u8) w A l.length l) (h : Newf k l = some (r1, r2, r3, r4, r5, r6)) :
    Calls Try.prog 48 #[.slice A l.length c] w fun e w' => ∃ v3_ : Value, e = .returned (.tuple #[.agg #[.int .u32 r1, .int .u32 r2, .int .u32 r3, v3_, .int .i64 r5], .int .i64 r6]) ∧ Kd.R (Kd.int .u8) 5 w' w.heap.size (fun _ => True) v3_ r4 ∧ Below w.heap.size w w' := by
  have HR := Aside0.mk hr
  clear hr
  unfold Newf at h
  by_cases c1 : 20000 < l.length
  · rw [if_pos c1] at h
    simp only [Option.some.injEq, Prod.mk.injEq] at h
    obtain ⟨rfl, rfl, rfl, rfl, rfl, rfl⟩ := h
    have c1b : decide (20000 < l.length) = true := decide_eq_true c1
    have c1c : decide ((20000 : Int) < (l.length : Int)) = true := decide_eq_true (by omega)
    go_enter Try.func48, Try.ntmps48
    go_wp2_with (first | ((with_reducible refine gate_dst (N := 2) rfl ?_); refine box_event ?hg (N := 2) ?hd (cs := #[.int .u32 0, .int .u32 0, .int .u32 0, .slice none 0 0, .int .i64 0]) (t := 72) ?hr ?_; (case hd => rfl); (case hg => rfl); (case hr => first | (go_simp; done) | (go_simp; rfl)); intro gB hgB wB hB hbB; have HB := Aside0.mk hB; have BB := Aside0.mk hbB; have GB : w.heap.size ≤ gB := Nat.le_of_eq hgB.symm; clear hB hbB hgB; have b0 : wB.cell? ⟨gB, 0, none⟩ = some (.int .u32 0) := (blk_cell HB.out 0).trans rfl; have bf0 := blk_frozen HB.out 0; have b1 : wB.cell? ⟨gB, 1, none⟩ = some (.int .u32 0) := (blk_cell HB.out 1).trans rfl; have bf1 := blk_frozen HB.out 1; have b2 : wB.cell? ⟨gB, 2, none⟩ = some (.int .u32 0) := (blk_cell HB.out 2).trans rfl; have bf2 := blk_frozen HB.out 2; have b3 : wB.cell? ⟨gB, 3, none⟩ = some (.slice none 0 0) := (blk_cell HB.out 3).trans rfl; have bf3 := blk_frozen HB.out 3; have b4 : wB.cell? ⟨gB, 4, none⟩ = some (.int .i64 0) := (blk_cell HB.out 4).trans rfl; have bf4 := blk_frozen HB.out 4))
    refine bodyPost_ret (results_ct rfl _ _ gB 72 #[.int .u32 0, .int .u32 0, .int .u32 0, .slice none 0 0, .int .i64 0] (0, 0) _ rfl (blk_put (blk_put (blk_put (blk_put (blk_put HB.out 0 _ rfl) 1 _ rfl) 2 _ rfl) 3 _ rfl) 4 _ rfl) Try.underlying72 rfl (by kernel_rfl)) rfl ?_
    exact ⟨_, rfl, Kd.R_nil _ _ _ _ _, (below_set (below_set (below_set (below_set (below_set BB.out GB) GB) GB) GB) GB)⟩
  · rw [if_neg c1] at h
    obtain ⟨⟨q1, q2⟩, hq, h2⟩ := Option.bind_eq_some_iff.mp h
    have HQ := Aside0.mk hq
    clear h hq
    simp only [Option.some.injEq, Prod.mk.injEq] at h2
    obtain ⟨rfl, rfl, rfl, rfl, rfl, rfl⟩ := h2
    have c1b : decide (20000 < l.length) = false := decide_eq_false c1
    have c1c : decide ((20000 : Int) < (l.length : Int)) = false := decide_eq_false (by omega)
    have HL := Aside0.mk (show l.length < 140737488355328 by omega)
    go_enter Try.func48, Try.ntmps48
    go_wp2_with (first | ((with_reducible refine gate_dst (N := 2) rfl ?_); refine box_event ?hg (N := 2) ?hd (cs := #[.int .u32 0, .int .u32 0, .int .u32 0, .slice none 0 0, .int .i64 0]) (t := 72) ?hr ?_; (case hd => rfl); (case hg => rfl); (case hr => first | (go_simp; done) | (go_simp; rfl)); intro gB hgB wB hB hbB; have HB := Aside0.mk hB; have BB := Aside0.mk hbB; have GB : w.heap.size ≤ gB := Nat.le_of_eq hgB.symm; clear hB hbB hgB))
    have HS := Aside0.mk BB.out.size
    refine (Clone_calls A c l _ (Kd.C_below HR.out BB.out) HL.out).mono ?_
    rintro e w1 ⟨v, rfl, hR1, hb1⟩
    obtain ⟨A1, k1, ev⟩ := Kd.R_slice hR1
    subst ev
    have HB1 := Aside0.mk (blk_below HB.out hb1)
    have HR1 := Aside0.mk hR1
    have B1 := Aside0.mk (below_step BB.out hb1)
    clear hb1 hR1 HB BB
    go_wp2_with fail
    refine (start_calls k A1 k1 l q1 q2 _ (Kd.R_reads' HR1.out).2.2 HQ.out).mono ?_
    rintro e w2 ⟨rfl, hb2⟩
    have HB2 := Aside0.mk (blk_below HB1.out hb2)
    have HR2 := Aside0.mk (Kd.R_lower (Kd.R_below HR1.out hb2) (show w.heap.size ≤ _ from HS.out))
    have B2 := Aside0.mk (below_step B1.out hb2)
    clear hb2 HB1 HR1 B1
    have b0 : w2.cell? ⟨gB, 0, none⟩ = some (.int .u32 0) := (blk_cell HB2.out 0).trans rfl
    have bf0 := blk_frozen HB2.out 0
    have b1 : w2.cell? ⟨gB, 1, none⟩ = some (.int .u32 0) := (blk_cell HB2.out 1).trans rfl
    have bf1 := blk_frozen HB2.out 1
    have b2 : w2.cell? ⟨gB, 2, none⟩ = some (.int .u32 0) := (blk_cell HB2.out 2).trans rfl
    have bf2 := blk_frozen HB2.out 2
    have b3 : w2.cell? ⟨gB, 3, none⟩ = some (.slice none 0 0) := (blk_cell HB2.out 3).trans rfl
    have bf3 := blk_frozen HB2.out 3
    have b4 : w2.cell? ⟨gB, 4, none⟩ = some (.int .i64 0) := (blk_cell HB2.out 4).trans rfl
    have bf4 := blk_frozen HB2.out 4
    go_wp2_with fail
    refine bodyPost_ret (results_ct rfl _ _ gB 72 #[.int .u32 0, .int .u32 4294967295, .int .u32 q1, .slice A1 l.length k1, .int .i64 q2] (0, 0) _ rfl (blk_put (blk_put (blk_put (blk_put (blk_put HB2.out 0 _ rfl) 1 _ rfl) 2 _ rfl) 3 _ rfl) 4 _ rfl) Try.underlying72 rfl (by kernel_rfl)) rfl ?_
    refine ⟨_, rfl, ?_, (below_set (below_set (below_set (below_set (below_set B2.out GB) GB) GB) GB) GB)⟩
    exact Kd.R_set (Kd.R_set (Kd.R_set (Kd.R_set (Kd.R_set HR2.out HB2.out (by decide) 0 _) (blk_put HB2.out 0 _ rfl) (by decide) 1 _) (blk_put (blk_put HB2.out 0 _ rfl) 1 _ rfl) (by decide) 2 _) (blk_put (blk_put (blk_put HB2.out 0 _ rfl) 1 _ rfl) 2 _ rfl) (by decide) 3 _) (blk_put (blk_put (blk_put (blk_put HB2.out 0 _ rfl) 1 _ rfl) 2 _ rfl) 3 _ rfl) (by decide) 4 _
end Go.Proofs.Ytgapkifgddjijaa.Hand
