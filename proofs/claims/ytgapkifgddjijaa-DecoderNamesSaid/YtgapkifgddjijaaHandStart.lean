/- The contracts of decoder.start and decoder.New. -/
import Derived.Test.YtgapkifgddjijaaHandGet
namespace Go.Proofs.Ytgapkifgddjijaa.Hand
open Go.RowKit Go.Proofs.YtgapkifgddjijaaW.PrintWords Go.Proofs.YtgapkifgddjijaaW.PrintLast Go.Proofs.YtgapkifgddjijaaW.PrintMore
open Go.Proofs.Ytgapkifgddjijaa.QE

def startl : Nat → Int → List Int → Int → Option (Int × Int)
  | 0, _, _, _ => none
  | k + 1, x, l, t => if t < 4 then ((decoder_at.f l t).bind fun b => startl k (Go.bits .or .u32 (x * 256 % 4294967296) (b % 4294967296)) l (wrap64 (t + 1))) else some (x, t)

set_option maxHeartbeats 1600000 in
set_option maxRecDepth 100000 in
theorem start_calls (k : Nat) (A : Option Addr) (c : Nat) (l : List Int) (rx rt : Int) (w : World) (hr : Kd.C (Kd.int .u8) w A l.length l) (h : startl k 0 l 0 = some (rx, rt)) :
    Calls Try.prog 81 #[.slice A l.length c] w fun e w' => e = .returned (.agg #[.int .u32 0, .int .u32 4294967295, .int .u32 rx, .slice A l.length c, .int .i64 rt]) ∧ Below w.heap.size w w' := by
  have HR := Aside0.mk hr
  have H := Aside0.mk h
  clear hr h
  go_enter Try.func81, Try.ntmps81
  go_wp2_with (first | ((with_reducible refine gate_dst (N := 2) rfl ?_); refine box_event ?hg (N := 2) ?hd (cs := #[.int .u32 0, .int .u32 0, .int .u32 0, .slice none 0 0, .int .i64 0]) (t := 72) ?hr ?_; (case hd => rfl); (case hg => rfl); (case hr => first | (go_simp; done) | (go_simp; rfl)); intro gA hgA wA hA hbA; have HA := Aside0.mk hA; have BA := Aside0.mk hbA; have GA : w.heap.size ≤ gA := Nat.le_of_eq hgA.symm; clear hA hbA hgA) | ((with_reducible refine gate_dst (N := 3) rfl ?_); refine box_event ?hg (N := 3) ?hd (cs := #[.int .u32 0, .int .u32 0, .int .u32 0, .slice none 0 0, .int .i64 0]) (t := 72) ?hr ?_; (case hd => rfl); (case hg => rfl); (case hr => first | (go_simp; done) | (go_simp; rfl)); intro gB hgB wB hB hbB; have HB := Aside0.mk hB; have HA1 := Aside0.mk (blk_below HA.out hbB); have BB := Aside0.mk (below_step BA.out hbB); have GB : w.heap.size ≤ gB := Nat.le_trans BA.out.size (Nat.le_of_eq hgB.symm); have NE : gA ≠ gB := Nat.ne_of_lt (Nat.lt_of_lt_of_eq (blk_lt HA.out) hgB.symm); clear hB hbB hgB HA BA; have b0 : wB.cell? ⟨gB, 0, none⟩ = some (.int .u32 0) := (blk_cell HB.out 0).trans rfl; have b1 : wB.cell? ⟨gB, 1, none⟩ = some (.int .u32 0) := (blk_cell HB.out 1).trans rfl; have b2 : wB.cell? ⟨gB, 2, none⟩ = some (.int .u32 0) := (blk_cell HB.out 2).trans rfl; have b3 : wB.cell? ⟨gB, 3, none⟩ = some (.slice none 0 0) := (blk_cell HB.out 3).trans rfl; have b4 : wB.cell? ⟨gB, 4, none⟩ = some (.int .i64 0) := (blk_cell HB.out 4).trans rfl; have bf0 := blk_frozen HB.out 0; have bf1 := blk_frozen HB.out 1; have bf2 := blk_frozen HB.out 2; have bf3 := blk_frozen HB.out 3; have bf4 := blk_frozen HB.out 4))
  have HW := Aside0.mk (blk_put (blk_put (blk_put (blk_put (blk_put HB.out 0 (.int .u32 0) rfl) 1 (.int .u32 4294967295) rfl) 2 (.int .u32 0) rfl) 3 (.slice A l.length c) rfl) 4 (.int .i64 0) rfl)
  go_loopg [6] k (fun kq _ w' => ∃ (x s : Int), Aside0 (startl kq x l s = some (rx, rt)) ∧ Aside0 (w'.heap[gB]? = some (.cells #[.int .u32 0, .int .u32 4294967295, .int .u32 x, .slice A l.length c, .int .i64 s] 72 (0, 0))) ∧ Aside0 (w'.heap[gA]? = some (.cells #[.int .u32 0, .int .u32 0, .int .u32 0, .slice none 0 0, .int .i64 0] 72 (0, 0))) ∧ Aside0 (Below w.heap.size w w'))
  case atStart => exact ⟨0, 0, H, HW, ⟨blk_far (blk_far (blk_far (blk_far (blk_far HA1.out NE _) NE _) NE _) NE _) NE _⟩, ⟨below_set (below_set (below_set (below_set (below_set BB.out GB) GB) GB) GB) GB⟩⟩
  case round =>
    clear b0 b1 b2 b3 b4 bf0 bf1 bf2 bf3 bf4 HB HA1 BB HW H
    obtain ⟨x, s, HL, HG, HA, HB⟩ := hrel
    have c2 : wr.cell? ⟨gB, 2, none⟩ = some (.int .u32 x) := (blk_cell HG.out 2).trans rfl
    have c4 : wr.cell? ⟨gB, 4, none⟩ = some (.int .i64 s) := (blk_cell HG.out 4).trans rfl
    have hl := HL.out
    cases gk with
    | zero => exact absurd hl (by simp [startl])
    | succ n =>
      rw [startl] at hl
      by_cases hs : s < 4
      · rw [if_pos hs] at hl
        obtain ⟨b, hb, hl2⟩ := Option.bind_eq_some_iff.mp hl
        have HBt := Aside0.mk hb
        have HL2 := Aside0.mk hl2
        have hs1 : decide (s < 4) = true := decide_eq_true hs
        clear hl hb hl2 hs HL
        go_wp2_with fail
        refine still_tail 9 (by kernel_rfl) (by kernel_rfl) (fun w5 hw5 => ?_)
        have HG5 := Aside0.mk (show w5.heap[gB]? = some (.cells #[.int .u32 0, .int .u32 4294967295, .int .u32 x, .slice A l.length c, .int .i64 s] 72 (0, 0)) by rw [hw5]; exact HG.out)
        have HA5 := Aside0.mk (show w5.heap[gA]? = some (.cells #[.int .u32 0, .int .u32 0, .int .u32 0, .slice none 0 0, .int .i64 0] 72 (0, 0)) by rw [hw5]; exact HA.out)
        have HB5 := Aside0.mk (show Below w.heap.size w w5 by rw [hw5]; exact below_drew HB.out)
        clear hw5 c2 c4
        have c2 : w5.cell? ⟨gB, 2, none⟩ = some (.int .u32 x) := (blk_cell HG5.out 2).trans rfl
        have c4 : w5.cell? ⟨gB, 4, none⟩ = some (.int .i64 s) := (blk_cell HG5.out 4).trans rfl
        have f2 := blk_frozen HG5.out 2
        have f4 := blk_frozen HG5.out 4
        simp only [List.take_succ_cons, List.take_zero, List.drop_succ_cons, List.drop_zero]
        iterate 6 still_step
        still_call (at_same A c l s b _ (Kd.C_below HR.out HB5.out) HBt.out)
        repeat still_step
        try refine wpStill_nil ?_
        go_wp2_with fail
        go_roundg n
        case measure => omega
        case rel => exact ⟨_, _, HL2, ⟨blk_put (blk_put HG5.out 2 _ rfl) 4 _ rfl⟩, ⟨blk_far (blk_far HA5.out NE _) NE _⟩, ⟨below_set (below_set HB5.out GB) GB⟩⟩
      · rw [if_neg hs] at hl
        simp only [Option.some.injEq, Prod.mk.injEq] at hl
        obtain ⟨rfl, rfl⟩ := hl
        have hs1 : decide (s < 4) = false := decide_eq_false hs
        clear hs
        have c0 : wr.cell? ⟨gB, 0, none⟩ = some (.int .u32 0) := (blk_cell HG.out 0).trans rfl
        have c1 : wr.cell? ⟨gB, 1, none⟩ = some (.int .u32 4294967295) := (blk_cell HG.out 1).trans rfl
        have c3 : wr.cell? ⟨gB, 3, none⟩ = some (.slice A l.length c) := (blk_cell HG.out 3).trans rfl
        have a0 : wr.cell? ⟨gA, 0, none⟩ = some (.int .u32 0) := (blk_cell HA.out 0).trans rfl
        have a1 : wr.cell? ⟨gA, 1, none⟩ = some (.int .u32 0) := (blk_cell HA.out 1).trans rfl
        have a2 : wr.cell? ⟨gA, 2, none⟩ = some (.int .u32 0) := (blk_cell HA.out 2).trans rfl
        have a3 : wr.cell? ⟨gA, 3, none⟩ = some (.slice none 0 0) := (blk_cell HA.out 3).trans rfl
        have a4 : wr.cell? ⟨gA, 4, none⟩ = some (.int .i64 0) := (blk_cell HA.out 4).trans rfl
        have g0 := blk_frozen HA.out 0
        have g1 := blk_frozen HA.out 1
        have g2 := blk_frozen HA.out 2
        have g3 := blk_frozen HA.out 3
        have g4 := blk_frozen HA.out 4
        go_wp2_with fail
        refine bodyPost_ret (results_cell_row rfl _ _ gA 72 #[.int .u32 0, .int .u32 4294967295, .int .u32 x, .slice A l.length c, .int .i64 s] (0, 0) _ rfl (blk_put (blk_put (blk_put (blk_put (blk_put HA.out 0 _ rfl) 1 _ rfl) 2 _ rfl) 3 _ rfl) 4 _ rfl) Try.underlying72 rfl (by kernel_rfl)) rfl ?_
        exact ⟨rfl, below_set (below_set (below_set (below_set (below_set HB.out GA) GA) GA) GA) GA⟩
end Go.Proofs.Ytgapkifgddjijaa.Hand
