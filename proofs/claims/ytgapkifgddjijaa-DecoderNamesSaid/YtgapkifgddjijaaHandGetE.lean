/- The contract of decoder.Get, for every decoder and number. Written by wip/h/mkgetE.py. -/
import Derived.Test.YtgapkifgddjijaaHandNew
namespace Go.Proofs.Ytgapkifgddjijaa.Hand
open Go.RowKit Go.Proofs.YtgapkifgddjijaaW.PrintWords Go.Proofs.YtgapkifgddjijaaW.PrintLast Go.Proofs.YtgapkifgddjijaaW.PrintMore
open Go.Proofs.Ytgapkifgddjijaa.QE

def Getf (k : Nat) (x1 x2 x : Int) (l : List Int) (t p : Int) : Option (Int × Int × Int × List Int × Int × Bool × Int) :=
  (decoder_Check.f x1 x2 x l t).bind fun u => if u = 0 then (if wrongf p = true then some (0, 0, 0, ([] : List Int), 0, false, 2) else if l.length < 140737488355328 then ((getf k x1 x2 x l t p).bind fun q => if q.2.2.2.1 > 1000000 then some (0, 0, 0, ([] : List Int), 0, false, 4) else some (q.1, q.2.1, q.2.2.1, l, q.2.2.2.1, q.2.2.2.2, 0)) else none) else some (0, 0, 0, ([] : List Int), 0, false, u)

set_option maxHeartbeats 3200000 in
set_option maxRecDepth 100000 in
theorem Get_calls (k : Nat) (x1 x2 x : Int) (A : Option Addr) (c : Nat) (l : List Int) (t p : Int) (r1 r2 r3 : Int) (r4 : List Int) (r5 : Int) (r6 : Bool) (r7 : Int) (w : World)
    (hr : Kd.C (Kd.int .u8) w A l.length l) (hc : l.length ≤ c) (h : Getf k x1 x2 x l t p = some (r1, r2, r3, r4, r5, r6, r7)) :
    Calls Try.prog 50 #[.agg #[.int .u32 x1, .int .u32 x2, .int .u32 x, .slice A l.length c, .int .i64 t], .int .i64 p] w fun e w' => ∃ v3_ : Value, e = .returned (.tuple #[.agg #[.int .u32 r1, .int .u32 r2, .int .u32 r3, v3_, .int .i64 r5], .bool r6, .int .i64 r7]) ∧ Kd.R (Kd.int .u8) 5 w' w.heap.size (fun _ => True) v3_ r4 ∧ Below w.heap.size w w' := by
  have HR := Aside0.mk hr
  have HC := Aside0.mk hc
  clear hr hc
  unfold Getf at h
  obtain ⟨u, ht, h2⟩ := Option.bind_eq_some_iff.mp h
  clear h
  have HT := Aside0.mk ht
  clear ht
  by_cases ct : u = 0
  · rw [if_pos ct] at h2
    subst ct
    by_cases cw : wrongf p = true
    · rw [if_pos cw] at h2
      simp only [Option.some.injEq, Prod.mk.injEq] at h2
      obtain ⟨rfl, rfl, rfl, rfl, rfl, rfl, rfl⟩ := h2
      go_enter Try.func50, Try.ntmps50
      go_wp2_with (first | ((with_reducible refine gate_dst (N := 2) rfl ?_); refine box_event ?hg (N := 2) ?hd (cs := #[.int .u32 x1, .int .u32 x2, .int .u32 x, .slice A l.length c, .int .i64 t]) (t := 72) ?hr ?_; (case hd => rfl); (case hg => rfl); (case hr => first | (go_simp; done) | (go_simp; rfl)); intro gA hgA wA hA hbA; have HA := Aside0.mk hA; have BA := Aside0.mk hbA; have GA : w.heap.size ≤ gA := Nat.le_of_eq hgA.symm; clear hA hbA hgA) | ((with_reducible refine gate_dst (N := 4) rfl ?_); refine box_event ?hg (N := 4) ?hd (cs := #[.int .u32 0, .int .u32 0, .int .u32 0, .slice none 0 0, .int .i64 0]) (t := 72) ?hr ?_; (case hd => rfl); (case hg => rfl); (case hr => first | (go_simp; done) | (go_simp; rfl)); intro gB hgB wB hB hbB; have HB := Aside0.mk hB; have HA1 := Aside0.mk (blk_below HA.out hbB); have BB := Aside0.mk (below_step BA.out hbB); have GB : w.heap.size ≤ gB := Nat.le_trans BA.out.size (Nat.le_of_eq hgB.symm); have NE : gA ≠ gB := Nat.ne_of_lt (Nat.lt_of_lt_of_eq (blk_lt HA.out) hgB.symm); clear hB hbB hgB HA BA; have a0 : wB.cell? ⟨gA, 0, none⟩ = some (.int .u32 x1) := (blk_cell HA1.out 0).trans rfl; have af0 := blk_frozen HA1.out 0; have a1 : wB.cell? ⟨gA, 1, none⟩ = some (.int .u32 x2) := (blk_cell HA1.out 1).trans rfl; have af1 := blk_frozen HA1.out 1; have a2 : wB.cell? ⟨gA, 2, none⟩ = some (.int .u32 x) := (blk_cell HA1.out 2).trans rfl; have af2 := blk_frozen HA1.out 2; have a3 : wB.cell? ⟨gA, 3, none⟩ = some (.slice A l.length c) := (blk_cell HA1.out 3).trans rfl; have af3 := blk_frozen HA1.out 3; have a4 : wB.cell? ⟨gA, 4, none⟩ = some (.int .i64 t) := (blk_cell HA1.out 4).trans rfl; have af4 := blk_frozen HA1.out 4; have b0 : wB.cell? ⟨gB, 0, none⟩ = some (.int .u32 0) := (blk_cell HB.out 0).trans rfl; have bf0 := blk_frozen HB.out 0; have b1 : wB.cell? ⟨gB, 1, none⟩ = some (.int .u32 0) := (blk_cell HB.out 1).trans rfl; have bf1 := blk_frozen HB.out 1; have b2 : wB.cell? ⟨gB, 2, none⟩ = some (.int .u32 0) := (blk_cell HB.out 2).trans rfl; have bf2 := blk_frozen HB.out 2; have b3 : wB.cell? ⟨gB, 3, none⟩ = some (.slice none 0 0) := (blk_cell HB.out 3).trans rfl; have bf3 := blk_frozen HB.out 3; have b4 : wB.cell? ⟨gB, 4, none⟩ = some (.int .i64 0) := (blk_cell HB.out 4).trans rfl; have bf4 := blk_frozen HB.out 4))
      refine (QE.decoder_Check.calls x1 x2 x A c l t _ _ (Kd.C_below HR.out BB.out) HC.out HT.out).mono ?_
      rintro e w1 ⟨rfl, hb1⟩
      have HA2 := Aside0.mk (blk_below HA1.out hb1)
      have HB2 := Aside0.mk (blk_below HB.out hb1)
      have B2 := Aside0.mk (below_step BB.out hb1)
      clear hb1 HA1 HB BB
      clear a0 af0 a1 af1 a2 af2 a3 af3 a4 af4
      clear b0 bf0 b1 bf1 b2 bf2 b3 bf3 b4 bf4
      have a0 : w1.cell? ⟨gA, 0, none⟩ = some (.int .u32 x1) := (blk_cell HA2.out 0).trans rfl
      have af0 := blk_frozen HA2.out 0
      have a1 : w1.cell? ⟨gA, 1, none⟩ = some (.int .u32 x2) := (blk_cell HA2.out 1).trans rfl
      have af1 := blk_frozen HA2.out 1
      have a2 : w1.cell? ⟨gA, 2, none⟩ = some (.int .u32 x) := (blk_cell HA2.out 2).trans rfl
      have af2 := blk_frozen HA2.out 2
      have a3 : w1.cell? ⟨gA, 3, none⟩ = some (.slice A l.length c) := (blk_cell HA2.out 3).trans rfl
      have af3 := blk_frozen HA2.out 3
      have a4 : w1.cell? ⟨gA, 4, none⟩ = some (.int .i64 t) := (blk_cell HA2.out 4).trans rfl
      have af4 := blk_frozen HA2.out 4
      have b0 : w1.cell? ⟨gB, 0, none⟩ = some (.int .u32 0) := (blk_cell HB2.out 0).trans rfl
      have bf0 := blk_frozen HB2.out 0
      have b1 : w1.cell? ⟨gB, 1, none⟩ = some (.int .u32 0) := (blk_cell HB2.out 1).trans rfl
      have bf1 := blk_frozen HB2.out 1
      have b2 : w1.cell? ⟨gB, 2, none⟩ = some (.int .u32 0) := (blk_cell HB2.out 2).trans rfl
      have bf2 := blk_frozen HB2.out 2
      have b3 : w1.cell? ⟨gB, 3, none⟩ = some (.slice none 0 0) := (blk_cell HB2.out 3).trans rfl
      have bf3 := blk_frozen HB2.out 3
      have b4 : w1.cell? ⟨gB, 4, none⟩ = some (.int .i64 0) := (blk_cell HB2.out 4).trans rfl
      have bf4 := blk_frozen HB2.out 4
      go_wp2_with fail
      refine (wrong_calls p _).mono ?_
      rw [cw]
      rintro e w' ⟨rfl, ⟨nd, rfl⟩⟩
      go_wp2_with fail
      refine bodyPost_ret (results_ctt rfl _ _ gB 72 #[.int .u32 0, .int .u32 0, .int .u32 0, .slice none 0 0, .int .i64 0] (0, 0) _ rfl (blk_put (blk_put (blk_put (blk_put (blk_put (blk_drewN HB2.out _) 0 _ rfl) 1 _ rfl) 2 _ rfl) 3 _ rfl) 4 _ rfl) Try.underlying72 rfl (by kernel_rfl)) rfl ?_
      exact ⟨_, rfl, Kd.R_nil _ _ _ _ _, (below_set (below_set (below_set (below_set (below_set (pw_below_drewN B2.out _) GB) GB) GB) GB) GB)⟩

    · rw [if_neg cw] at h2
      have cw0 : wrongf p = false := Bool.eq_false_iff.2 cw
      clear cw
      by_cases hl : l.length < 140737488355328
      case neg => rw [if_neg hl] at h2; cases h2
      case pos =>
      rw [if_pos hl] at h2
      obtain ⟨⟨t1, t2, t3, t4, t5⟩, hq, h4⟩ := Option.bind_eq_some_iff.mp h2
      clear h2
      have HQ := Aside0.mk hq
      clear hq
      by_cases c4 : t4 > 1000000
      · simp only [if_pos c4, Option.some.injEq, Prod.mk.injEq] at h4
        obtain ⟨rfl, rfl, rfl, rfl, rfl, rfl, rfl⟩ := h4
        have c4b : decide (1000000 < t4) = true := decide_eq_true c4
        go_enter Try.func50, Try.ntmps50
        go_wp2_with (first | ((with_reducible refine gate_dst (N := 2) rfl ?_); refine box_event ?hg (N := 2) ?hd (cs := #[.int .u32 x1, .int .u32 x2, .int .u32 x, .slice A l.length c, .int .i64 t]) (t := 72) ?hr ?_; (case hd => rfl); (case hg => rfl); (case hr => first | (go_simp; done) | (go_simp; rfl)); intro gA hgA wA hA hbA; have HA := Aside0.mk hA; have BA := Aside0.mk hbA; have GA : w.heap.size ≤ gA := Nat.le_of_eq hgA.symm; clear hA hbA hgA) | ((with_reducible refine gate_dst (N := 4) rfl ?_); refine box_event ?hg (N := 4) ?hd (cs := #[.int .u32 0, .int .u32 0, .int .u32 0, .slice none 0 0, .int .i64 0]) (t := 72) ?hr ?_; (case hd => rfl); (case hg => rfl); (case hr => first | (go_simp; done) | (go_simp; rfl)); intro gB hgB wB hB hbB; have HB := Aside0.mk hB; have HA1 := Aside0.mk (blk_below HA.out hbB); have BB := Aside0.mk (below_step BA.out hbB); have GB : w.heap.size ≤ gB := Nat.le_trans BA.out.size (Nat.le_of_eq hgB.symm); have NE : gA ≠ gB := Nat.ne_of_lt (Nat.lt_of_lt_of_eq (blk_lt HA.out) hgB.symm); clear hB hbB hgB HA BA; have a0 : wB.cell? ⟨gA, 0, none⟩ = some (.int .u32 x1) := (blk_cell HA1.out 0).trans rfl; have af0 := blk_frozen HA1.out 0; have a1 : wB.cell? ⟨gA, 1, none⟩ = some (.int .u32 x2) := (blk_cell HA1.out 1).trans rfl; have af1 := blk_frozen HA1.out 1; have a2 : wB.cell? ⟨gA, 2, none⟩ = some (.int .u32 x) := (blk_cell HA1.out 2).trans rfl; have af2 := blk_frozen HA1.out 2; have a3 : wB.cell? ⟨gA, 3, none⟩ = some (.slice A l.length c) := (blk_cell HA1.out 3).trans rfl; have af3 := blk_frozen HA1.out 3; have a4 : wB.cell? ⟨gA, 4, none⟩ = some (.int .i64 t) := (blk_cell HA1.out 4).trans rfl; have af4 := blk_frozen HA1.out 4; have b0 : wB.cell? ⟨gB, 0, none⟩ = some (.int .u32 0) := (blk_cell HB.out 0).trans rfl; have bf0 := blk_frozen HB.out 0; have b1 : wB.cell? ⟨gB, 1, none⟩ = some (.int .u32 0) := (blk_cell HB.out 1).trans rfl; have bf1 := blk_frozen HB.out 1; have b2 : wB.cell? ⟨gB, 2, none⟩ = some (.int .u32 0) := (blk_cell HB.out 2).trans rfl; have bf2 := blk_frozen HB.out 2; have b3 : wB.cell? ⟨gB, 3, none⟩ = some (.slice none 0 0) := (blk_cell HB.out 3).trans rfl; have bf3 := blk_frozen HB.out 3; have b4 : wB.cell? ⟨gB, 4, none⟩ = some (.int .i64 0) := (blk_cell HB.out 4).trans rfl; have bf4 := blk_frozen HB.out 4))
        refine (QE.decoder_Check.calls x1 x2 x A c l t _ _ (Kd.C_below HR.out BB.out) HC.out HT.out).mono ?_
        rintro e w1 ⟨rfl, hb1⟩
        have HA2 := Aside0.mk (blk_below HA1.out hb1)
        have HB2 := Aside0.mk (blk_below HB.out hb1)
        have B2 := Aside0.mk (below_step BB.out hb1)
        clear hb1 HA1 HB BB
        clear a0 af0 a1 af1 a2 af2 a3 af3 a4 af4
        clear b0 bf0 b1 bf1 b2 bf2 b3 bf3 b4 bf4
        have a0 : w1.cell? ⟨gA, 0, none⟩ = some (.int .u32 x1) := (blk_cell HA2.out 0).trans rfl
        have af0 := blk_frozen HA2.out 0
        have a1 : w1.cell? ⟨gA, 1, none⟩ = some (.int .u32 x2) := (blk_cell HA2.out 1).trans rfl
        have af1 := blk_frozen HA2.out 1
        have a2 : w1.cell? ⟨gA, 2, none⟩ = some (.int .u32 x) := (blk_cell HA2.out 2).trans rfl
        have af2 := blk_frozen HA2.out 2
        have a3 : w1.cell? ⟨gA, 3, none⟩ = some (.slice A l.length c) := (blk_cell HA2.out 3).trans rfl
        have af3 := blk_frozen HA2.out 3
        have a4 : w1.cell? ⟨gA, 4, none⟩ = some (.int .i64 t) := (blk_cell HA2.out 4).trans rfl
        have af4 := blk_frozen HA2.out 4
        have b0 : w1.cell? ⟨gB, 0, none⟩ = some (.int .u32 0) := (blk_cell HB2.out 0).trans rfl
        have bf0 := blk_frozen HB2.out 0
        have b1 : w1.cell? ⟨gB, 1, none⟩ = some (.int .u32 0) := (blk_cell HB2.out 1).trans rfl
        have bf1 := blk_frozen HB2.out 1
        have b2 : w1.cell? ⟨gB, 2, none⟩ = some (.int .u32 0) := (blk_cell HB2.out 2).trans rfl
        have bf2 := blk_frozen HB2.out 2
        have b3 : w1.cell? ⟨gB, 3, none⟩ = some (.slice none 0 0) := (blk_cell HB2.out 3).trans rfl
        have bf3 := blk_frozen HB2.out 3
        have b4 : w1.cell? ⟨gB, 4, none⟩ = some (.int .i64 0) := (blk_cell HB2.out 4).trans rfl
        have bf4 := blk_frozen HB2.out 4
        go_wp2_with fail
        refine (wrong_calls p _).mono ?_
        rw [cw0]
        rintro e w' ⟨rfl, ⟨nd, rfl⟩⟩
        go_wp2_with fail
        refine (Clone_calls A c l _ (Kd.C_drewN (Kd.C_below HR.out B2.out) _) hl).mono ?_
        rintro e w2 ⟨v, rfl, hR, hb2⟩
        obtain ⟨A1, c1, rfl⟩ := Kd.R_slice hR
        have HA3 := Aside0.mk (blk_below (blk_drewN HA2.out _) hb2)
        have HB3 := Aside0.mk (blk_below (blk_drewN HB2.out _) hb2)
        have B3 := Aside0.mk (below_step (pw_below_drewN B2.out _) hb2)
        have R3 := Aside0.mk (Kd.R_lower hR B2.out.size)
        clear hb2 hR HA2 HB2 B2
        clear a0 af0 a1 af1 a2 af2 a3 af3 a4 af4
        clear b0 bf0 b1 bf1 b2 bf2 b3 bf3 b4 bf4
        have a0 : w2.cell? ⟨gA, 0, none⟩ = some (.int .u32 x1) := (blk_cell HA3.out 0).trans rfl
        have af0 := blk_frozen HA3.out 0
        have a1 : w2.cell? ⟨gA, 1, none⟩ = some (.int .u32 x2) := (blk_cell HA3.out 1).trans rfl
        have af1 := blk_frozen HA3.out 1
        have a2 : w2.cell? ⟨gA, 2, none⟩ = some (.int .u32 x) := (blk_cell HA3.out 2).trans rfl
        have af2 := blk_frozen HA3.out 2
        have a3 : w2.cell? ⟨gA, 3, none⟩ = some (.slice A l.length c) := (blk_cell HA3.out 3).trans rfl
        have af3 := blk_frozen HA3.out 3
        have a4 : w2.cell? ⟨gA, 4, none⟩ = some (.int .i64 t) := (blk_cell HA3.out 4).trans rfl
        have af4 := blk_frozen HA3.out 4
        have b0 : w2.cell? ⟨gB, 0, none⟩ = some (.int .u32 0) := (blk_cell HB3.out 0).trans rfl
        have bf0 := blk_frozen HB3.out 0
        have b1 : w2.cell? ⟨gB, 1, none⟩ = some (.int .u32 0) := (blk_cell HB3.out 1).trans rfl
        have bf1 := blk_frozen HB3.out 1
        have b2 : w2.cell? ⟨gB, 2, none⟩ = some (.int .u32 0) := (blk_cell HB3.out 2).trans rfl
        have bf2 := blk_frozen HB3.out 2
        have b3 : w2.cell? ⟨gB, 3, none⟩ = some (.slice none 0 0) := (blk_cell HB3.out 3).trans rfl
        have bf3 := blk_frozen HB3.out 3
        have b4 : w2.cell? ⟨gB, 4, none⟩ = some (.int .i64 0) := (blk_cell HB3.out 4).trans rfl
        have bf4 := blk_frozen HB3.out 4
        go_wp2_with fail
        have R3s := Aside0.mk (Kd.R_set R3.out HA3.out (by decide) 3 (.slice A1 l.length c1))
        refine (get_calls k gA x1 x2 x A1 c1 l t p t1 t2 t3 t4 t5 _ (blk_put HA3.out 3 _ rfl) (Kd.R_reads' R3s.out).2.2 (fun ad e h e2 => Kd.R_ne R3.out HA3.out (by decide) (by subst e; simp only [Value.ownBlock]; rw [← e2])) HQ.out).mono ?_
        rintro e w3 ⟨rfl, hA4, hg4⟩
        have HA4 := Aside0.mk hA4
        have HB4 := Aside0.mk (show w3.heap[gB]? = some (.cells #[.int .u32 0, .int .u32 0, .int .u32 0, .slice none 0 0, .int .i64 0] 72 (0, 0)) from (hg4.block gB (blk_lt (blk_far HB3.out (p := ⟨gA, 3, none⟩) (Ne.symm NE) _)) (fun e => NE (by injection e with e; exact e.symm))).trans (blk_far HB3.out (p := ⟨gA, 3, none⟩) (Ne.symm NE) _))
        have R4 := Aside0.mk (Kd.R_mono (Kd.R_step (Kd.R_mono (Kd.R_types R3s.out (blk_put HA3.out 3 (.slice A1 l.length c1) rfl) (by decide)) (fun _ hk => hk)) (fun k_ hk hlt => hg4.block k_ hlt (fun e => hk.2 (by injection e with e)))) (fun _ hk => hk.1))
        have B4 := Aside0.mk (Below.trans (show Below w.heap.size w (World.setCell w2 ⟨gA, 3, none⟩ (.slice A1 l.length c1)) from below_set B3.out GA) (⟨hg4.os, hg4.tape, hg4.output, hg4.size, fun k_ hk => hg4.block k_ (Nat.lt_of_lt_of_le hk (show Below w.heap.size w (World.setCell w2 ⟨gA, 3, none⟩ (.slice A1 l.length c1)) from below_set B3.out GA).size) (fun e => Nat.ne_of_lt (Nat.lt_of_lt_of_le hk GA) (by injection e))⟩))
        clear hA4 hg4 HA3 HB3 B3 R3 R3s
        clear a0 af0 a1 af1 a2 af2 a3 af3 a4 af4
        clear b0 bf0 b1 bf1 b2 bf2 b3 bf3 b4 bf4
        have a0 : w3.cell? ⟨gA, 0, none⟩ = some (.int .u32 t1) := (blk_cell HA4.out 0).trans rfl
        have af0 := blk_frozen HA4.out 0
        have a1 : w3.cell? ⟨gA, 1, none⟩ = some (.int .u32 t2) := (blk_cell HA4.out 1).trans rfl
        have af1 := blk_frozen HA4.out 1
        have a2 : w3.cell? ⟨gA, 2, none⟩ = some (.int .u32 t3) := (blk_cell HA4.out 2).trans rfl
        have af2 := blk_frozen HA4.out 2
        have a3 : w3.cell? ⟨gA, 3, none⟩ = some (.slice A1 l.length c1) := (blk_cell HA4.out 3).trans rfl
        have af3 := blk_frozen HA4.out 3
        have a4 : w3.cell? ⟨gA, 4, none⟩ = some (.int .i64 t4) := (blk_cell HA4.out 4).trans rfl
        have af4 := blk_frozen HA4.out 4
        have b0 : w3.cell? ⟨gB, 0, none⟩ = some (.int .u32 0) := (blk_cell HB4.out 0).trans rfl
        have bf0 := blk_frozen HB4.out 0
        have b1 : w3.cell? ⟨gB, 1, none⟩ = some (.int .u32 0) := (blk_cell HB4.out 1).trans rfl
        have bf1 := blk_frozen HB4.out 1
        have b2 : w3.cell? ⟨gB, 2, none⟩ = some (.int .u32 0) := (blk_cell HB4.out 2).trans rfl
        have bf2 := blk_frozen HB4.out 2
        have b3 : w3.cell? ⟨gB, 3, none⟩ = some (.slice none 0 0) := (blk_cell HB4.out 3).trans rfl
        have bf3 := blk_frozen HB4.out 3
        have b4 : w3.cell? ⟨gB, 4, none⟩ = some (.int .i64 0) := (blk_cell HB4.out 4).trans rfl
        have bf4 := blk_frozen HB4.out 4
        go_wp2_with fail
        refine bodyPost_ret (results_ctt rfl _ _ gB 72 #[.int .u32 0, .int .u32 0, .int .u32 0, .slice none 0 0, .int .i64 0] (0, 0) _ rfl (blk_put (blk_put (blk_put (blk_put (blk_put HB4.out 0 _ rfl) 1 _ rfl) 2 _ rfl) 3 _ rfl) 4 _ rfl) Try.underlying72 rfl (by kernel_rfl)) rfl ?_
        exact ⟨_, rfl, Kd.R_nil _ _ _ _ _, (below_set (below_set (below_set (below_set (below_set B4.out GB) GB) GB) GB) GB)⟩

      · simp only [if_neg c4, Option.some.injEq, Prod.mk.injEq] at h4
        obtain ⟨rfl, rfl, rfl, rfl, rfl, rfl, rfl⟩ := h4
        have c4b : decide (1000000 < t4) = false := decide_eq_false c4
        go_enter Try.func50, Try.ntmps50
        go_wp2_with (first | ((with_reducible refine gate_dst (N := 2) rfl ?_); refine box_event ?hg (N := 2) ?hd (cs := #[.int .u32 x1, .int .u32 x2, .int .u32 x, .slice A l.length c, .int .i64 t]) (t := 72) ?hr ?_; (case hd => rfl); (case hg => rfl); (case hr => first | (go_simp; done) | (go_simp; rfl)); intro gA hgA wA hA hbA; have HA := Aside0.mk hA; have BA := Aside0.mk hbA; have GA : w.heap.size ≤ gA := Nat.le_of_eq hgA.symm; clear hA hbA hgA) | ((with_reducible refine gate_dst (N := 4) rfl ?_); refine box_event ?hg (N := 4) ?hd (cs := #[.int .u32 0, .int .u32 0, .int .u32 0, .slice none 0 0, .int .i64 0]) (t := 72) ?hr ?_; (case hd => rfl); (case hg => rfl); (case hr => first | (go_simp; done) | (go_simp; rfl)); intro gB hgB wB hB hbB; have HB := Aside0.mk hB; have HA1 := Aside0.mk (blk_below HA.out hbB); have BB := Aside0.mk (below_step BA.out hbB); have GB : w.heap.size ≤ gB := Nat.le_trans BA.out.size (Nat.le_of_eq hgB.symm); have NE : gA ≠ gB := Nat.ne_of_lt (Nat.lt_of_lt_of_eq (blk_lt HA.out) hgB.symm); clear hB hbB hgB HA BA; have a0 : wB.cell? ⟨gA, 0, none⟩ = some (.int .u32 x1) := (blk_cell HA1.out 0).trans rfl; have af0 := blk_frozen HA1.out 0; have a1 : wB.cell? ⟨gA, 1, none⟩ = some (.int .u32 x2) := (blk_cell HA1.out 1).trans rfl; have af1 := blk_frozen HA1.out 1; have a2 : wB.cell? ⟨gA, 2, none⟩ = some (.int .u32 x) := (blk_cell HA1.out 2).trans rfl; have af2 := blk_frozen HA1.out 2; have a3 : wB.cell? ⟨gA, 3, none⟩ = some (.slice A l.length c) := (blk_cell HA1.out 3).trans rfl; have af3 := blk_frozen HA1.out 3; have a4 : wB.cell? ⟨gA, 4, none⟩ = some (.int .i64 t) := (blk_cell HA1.out 4).trans rfl; have af4 := blk_frozen HA1.out 4; have b0 : wB.cell? ⟨gB, 0, none⟩ = some (.int .u32 0) := (blk_cell HB.out 0).trans rfl; have bf0 := blk_frozen HB.out 0; have b1 : wB.cell? ⟨gB, 1, none⟩ = some (.int .u32 0) := (blk_cell HB.out 1).trans rfl; have bf1 := blk_frozen HB.out 1; have b2 : wB.cell? ⟨gB, 2, none⟩ = some (.int .u32 0) := (blk_cell HB.out 2).trans rfl; have bf2 := blk_frozen HB.out 2; have b3 : wB.cell? ⟨gB, 3, none⟩ = some (.slice none 0 0) := (blk_cell HB.out 3).trans rfl; have bf3 := blk_frozen HB.out 3; have b4 : wB.cell? ⟨gB, 4, none⟩ = some (.int .i64 0) := (blk_cell HB.out 4).trans rfl; have bf4 := blk_frozen HB.out 4))
        refine (QE.decoder_Check.calls x1 x2 x A c l t _ _ (Kd.C_below HR.out BB.out) HC.out HT.out).mono ?_
        rintro e w1 ⟨rfl, hb1⟩
        have HA2 := Aside0.mk (blk_below HA1.out hb1)
        have HB2 := Aside0.mk (blk_below HB.out hb1)
        have B2 := Aside0.mk (below_step BB.out hb1)
        clear hb1 HA1 HB BB
        clear a0 af0 a1 af1 a2 af2 a3 af3 a4 af4
        clear b0 bf0 b1 bf1 b2 bf2 b3 bf3 b4 bf4
        have a0 : w1.cell? ⟨gA, 0, none⟩ = some (.int .u32 x1) := (blk_cell HA2.out 0).trans rfl
        have af0 := blk_frozen HA2.out 0
        have a1 : w1.cell? ⟨gA, 1, none⟩ = some (.int .u32 x2) := (blk_cell HA2.out 1).trans rfl
        have af1 := blk_frozen HA2.out 1
        have a2 : w1.cell? ⟨gA, 2, none⟩ = some (.int .u32 x) := (blk_cell HA2.out 2).trans rfl
        have af2 := blk_frozen HA2.out 2
        have a3 : w1.cell? ⟨gA, 3, none⟩ = some (.slice A l.length c) := (blk_cell HA2.out 3).trans rfl
        have af3 := blk_frozen HA2.out 3
        have a4 : w1.cell? ⟨gA, 4, none⟩ = some (.int .i64 t) := (blk_cell HA2.out 4).trans rfl
        have af4 := blk_frozen HA2.out 4
        have b0 : w1.cell? ⟨gB, 0, none⟩ = some (.int .u32 0) := (blk_cell HB2.out 0).trans rfl
        have bf0 := blk_frozen HB2.out 0
        have b1 : w1.cell? ⟨gB, 1, none⟩ = some (.int .u32 0) := (blk_cell HB2.out 1).trans rfl
        have bf1 := blk_frozen HB2.out 1
        have b2 : w1.cell? ⟨gB, 2, none⟩ = some (.int .u32 0) := (blk_cell HB2.out 2).trans rfl
        have bf2 := blk_frozen HB2.out 2
        have b3 : w1.cell? ⟨gB, 3, none⟩ = some (.slice none 0 0) := (blk_cell HB2.out 3).trans rfl
        have bf3 := blk_frozen HB2.out 3
        have b4 : w1.cell? ⟨gB, 4, none⟩ = some (.int .i64 0) := (blk_cell HB2.out 4).trans rfl
        have bf4 := blk_frozen HB2.out 4
        go_wp2_with fail
        refine (wrong_calls p _).mono ?_
        rw [cw0]
        rintro e w' ⟨rfl, ⟨nd, rfl⟩⟩
        go_wp2_with fail
        refine (Clone_calls A c l _ (Kd.C_drewN (Kd.C_below HR.out B2.out) _) hl).mono ?_
        rintro e w2 ⟨v, rfl, hR, hb2⟩
        obtain ⟨A1, c1, rfl⟩ := Kd.R_slice hR
        have HA3 := Aside0.mk (blk_below (blk_drewN HA2.out _) hb2)
        have HB3 := Aside0.mk (blk_below (blk_drewN HB2.out _) hb2)
        have B3 := Aside0.mk (below_step (pw_below_drewN B2.out _) hb2)
        have R3 := Aside0.mk (Kd.R_lower hR B2.out.size)
        clear hb2 hR HA2 HB2 B2
        clear a0 af0 a1 af1 a2 af2 a3 af3 a4 af4
        clear b0 bf0 b1 bf1 b2 bf2 b3 bf3 b4 bf4
        have a0 : w2.cell? ⟨gA, 0, none⟩ = some (.int .u32 x1) := (blk_cell HA3.out 0).trans rfl
        have af0 := blk_frozen HA3.out 0
        have a1 : w2.cell? ⟨gA, 1, none⟩ = some (.int .u32 x2) := (blk_cell HA3.out 1).trans rfl
        have af1 := blk_frozen HA3.out 1
        have a2 : w2.cell? ⟨gA, 2, none⟩ = some (.int .u32 x) := (blk_cell HA3.out 2).trans rfl
        have af2 := blk_frozen HA3.out 2
        have a3 : w2.cell? ⟨gA, 3, none⟩ = some (.slice A l.length c) := (blk_cell HA3.out 3).trans rfl
        have af3 := blk_frozen HA3.out 3
        have a4 : w2.cell? ⟨gA, 4, none⟩ = some (.int .i64 t) := (blk_cell HA3.out 4).trans rfl
        have af4 := blk_frozen HA3.out 4
        have b0 : w2.cell? ⟨gB, 0, none⟩ = some (.int .u32 0) := (blk_cell HB3.out 0).trans rfl
        have bf0 := blk_frozen HB3.out 0
        have b1 : w2.cell? ⟨gB, 1, none⟩ = some (.int .u32 0) := (blk_cell HB3.out 1).trans rfl
        have bf1 := blk_frozen HB3.out 1
        have b2 : w2.cell? ⟨gB, 2, none⟩ = some (.int .u32 0) := (blk_cell HB3.out 2).trans rfl
        have bf2 := blk_frozen HB3.out 2
        have b3 : w2.cell? ⟨gB, 3, none⟩ = some (.slice none 0 0) := (blk_cell HB3.out 3).trans rfl
        have bf3 := blk_frozen HB3.out 3
        have b4 : w2.cell? ⟨gB, 4, none⟩ = some (.int .i64 0) := (blk_cell HB3.out 4).trans rfl
        have bf4 := blk_frozen HB3.out 4
        go_wp2_with fail
        have R3s := Aside0.mk (Kd.R_set R3.out HA3.out (by decide) 3 (.slice A1 l.length c1))
        refine (get_calls k gA x1 x2 x A1 c1 l t p t1 t2 t3 t4 t5 _ (blk_put HA3.out 3 _ rfl) (Kd.R_reads' R3s.out).2.2 (fun ad e h e2 => Kd.R_ne R3.out HA3.out (by decide) (by subst e; simp only [Value.ownBlock]; rw [← e2])) HQ.out).mono ?_
        rintro e w3 ⟨rfl, hA4, hg4⟩
        have HA4 := Aside0.mk hA4
        have HB4 := Aside0.mk (show w3.heap[gB]? = some (.cells #[.int .u32 0, .int .u32 0, .int .u32 0, .slice none 0 0, .int .i64 0] 72 (0, 0)) from (hg4.block gB (blk_lt (blk_far HB3.out (p := ⟨gA, 3, none⟩) (Ne.symm NE) _)) (fun e => NE (by injection e with e; exact e.symm))).trans (blk_far HB3.out (p := ⟨gA, 3, none⟩) (Ne.symm NE) _))
        have R4 := Aside0.mk (Kd.R_mono (Kd.R_step (Kd.R_mono (Kd.R_types R3s.out (blk_put HA3.out 3 (.slice A1 l.length c1) rfl) (by decide)) (fun _ hk => hk)) (fun k_ hk hlt => hg4.block k_ hlt (fun e => hk.2 (by injection e with e)))) (fun _ hk => hk.1))
        have B4 := Aside0.mk (Below.trans (show Below w.heap.size w (World.setCell w2 ⟨gA, 3, none⟩ (.slice A1 l.length c1)) from below_set B3.out GA) (⟨hg4.os, hg4.tape, hg4.output, hg4.size, fun k_ hk => hg4.block k_ (Nat.lt_of_lt_of_le hk (show Below w.heap.size w (World.setCell w2 ⟨gA, 3, none⟩ (.slice A1 l.length c1)) from below_set B3.out GA).size) (fun e => Nat.ne_of_lt (Nat.lt_of_lt_of_le hk GA) (by injection e))⟩))
        clear hA4 hg4 HA3 HB3 B3 R3 R3s
        clear a0 af0 a1 af1 a2 af2 a3 af3 a4 af4
        clear b0 bf0 b1 bf1 b2 bf2 b3 bf3 b4 bf4
        have a0 : w3.cell? ⟨gA, 0, none⟩ = some (.int .u32 t1) := (blk_cell HA4.out 0).trans rfl
        have af0 := blk_frozen HA4.out 0
        have a1 : w3.cell? ⟨gA, 1, none⟩ = some (.int .u32 t2) := (blk_cell HA4.out 1).trans rfl
        have af1 := blk_frozen HA4.out 1
        have a2 : w3.cell? ⟨gA, 2, none⟩ = some (.int .u32 t3) := (blk_cell HA4.out 2).trans rfl
        have af2 := blk_frozen HA4.out 2
        have a3 : w3.cell? ⟨gA, 3, none⟩ = some (.slice A1 l.length c1) := (blk_cell HA4.out 3).trans rfl
        have af3 := blk_frozen HA4.out 3
        have a4 : w3.cell? ⟨gA, 4, none⟩ = some (.int .i64 t4) := (blk_cell HA4.out 4).trans rfl
        have af4 := blk_frozen HA4.out 4
        have b0 : w3.cell? ⟨gB, 0, none⟩ = some (.int .u32 0) := (blk_cell HB4.out 0).trans rfl
        have bf0 := blk_frozen HB4.out 0
        have b1 : w3.cell? ⟨gB, 1, none⟩ = some (.int .u32 0) := (blk_cell HB4.out 1).trans rfl
        have bf1 := blk_frozen HB4.out 1
        have b2 : w3.cell? ⟨gB, 2, none⟩ = some (.int .u32 0) := (blk_cell HB4.out 2).trans rfl
        have bf2 := blk_frozen HB4.out 2
        have b3 : w3.cell? ⟨gB, 3, none⟩ = some (.slice none 0 0) := (blk_cell HB4.out 3).trans rfl
        have bf3 := blk_frozen HB4.out 3
        have b4 : w3.cell? ⟨gB, 4, none⟩ = some (.int .i64 0) := (blk_cell HB4.out 4).trans rfl
        have bf4 := blk_frozen HB4.out 4
        go_wp2_with fail
        refine bodyPost_ret (results_ctt rfl _ _ gB 72 #[.int .u32 t1, .int .u32 t2, .int .u32 t3, .slice A1 l.length c1, .int .i64 t4] (0, 0) _ rfl (blk_put (blk_put (blk_put (blk_put (blk_put HB4.out 0 _ rfl) 1 _ rfl) 2 _ rfl) 3 _ rfl) 4 _ rfl) Try.underlying72 rfl (by kernel_rfl)) rfl ?_
        exact ⟨_, rfl, (Kd.R_set (Kd.R_set (Kd.R_set (Kd.R_set (Kd.R_set R4.out HB4.out (by decide) 0 _) (blk_put HB4.out 0 _ rfl) (by decide) 1 _) (blk_put (blk_put HB4.out 0 _ rfl) 1 _ rfl) (by decide) 2 _) (blk_put (blk_put (blk_put HB4.out 0 _ rfl) 1 _ rfl) 2 _ rfl) (by decide) 3 _) (blk_put (blk_put (blk_put (blk_put HB4.out 0 _ rfl) 1 _ rfl) 2 _ rfl) 3 _ rfl) (by decide) 4 _), (below_set (below_set (below_set (below_set (below_set B4.out GB) GB) GB) GB) GB)⟩

  · rw [if_neg ct] at h2
    have ct1 : (u != 0) = true := bne_iff_ne.mpr ct
    simp only [Option.some.injEq, Prod.mk.injEq] at h2
    obtain ⟨rfl, rfl, rfl, rfl, rfl, rfl, rfl⟩ := h2
    go_enter Try.func50, Try.ntmps50
    go_wp2_with (first | ((with_reducible refine gate_dst (N := 2) rfl ?_); refine box_event ?hg (N := 2) ?hd (cs := #[.int .u32 x1, .int .u32 x2, .int .u32 x, .slice A l.length c, .int .i64 t]) (t := 72) ?hr ?_; (case hd => rfl); (case hg => rfl); (case hr => first | (go_simp; done) | (go_simp; rfl)); intro gA hgA wA hA hbA; have HA := Aside0.mk hA; have BA := Aside0.mk hbA; have GA : w.heap.size ≤ gA := Nat.le_of_eq hgA.symm; clear hA hbA hgA) | ((with_reducible refine gate_dst (N := 4) rfl ?_); refine box_event ?hg (N := 4) ?hd (cs := #[.int .u32 0, .int .u32 0, .int .u32 0, .slice none 0 0, .int .i64 0]) (t := 72) ?hr ?_; (case hd => rfl); (case hg => rfl); (case hr => first | (go_simp; done) | (go_simp; rfl)); intro gB hgB wB hB hbB; have HB := Aside0.mk hB; have HA1 := Aside0.mk (blk_below HA.out hbB); have BB := Aside0.mk (below_step BA.out hbB); have GB : w.heap.size ≤ gB := Nat.le_trans BA.out.size (Nat.le_of_eq hgB.symm); have NE : gA ≠ gB := Nat.ne_of_lt (Nat.lt_of_lt_of_eq (blk_lt HA.out) hgB.symm); clear hB hbB hgB HA BA; have a0 : wB.cell? ⟨gA, 0, none⟩ = some (.int .u32 x1) := (blk_cell HA1.out 0).trans rfl; have af0 := blk_frozen HA1.out 0; have a1 : wB.cell? ⟨gA, 1, none⟩ = some (.int .u32 x2) := (blk_cell HA1.out 1).trans rfl; have af1 := blk_frozen HA1.out 1; have a2 : wB.cell? ⟨gA, 2, none⟩ = some (.int .u32 x) := (blk_cell HA1.out 2).trans rfl; have af2 := blk_frozen HA1.out 2; have a3 : wB.cell? ⟨gA, 3, none⟩ = some (.slice A l.length c) := (blk_cell HA1.out 3).trans rfl; have af3 := blk_frozen HA1.out 3; have a4 : wB.cell? ⟨gA, 4, none⟩ = some (.int .i64 t) := (blk_cell HA1.out 4).trans rfl; have af4 := blk_frozen HA1.out 4; have b0 : wB.cell? ⟨gB, 0, none⟩ = some (.int .u32 0) := (blk_cell HB.out 0).trans rfl; have bf0 := blk_frozen HB.out 0; have b1 : wB.cell? ⟨gB, 1, none⟩ = some (.int .u32 0) := (blk_cell HB.out 1).trans rfl; have bf1 := blk_frozen HB.out 1; have b2 : wB.cell? ⟨gB, 2, none⟩ = some (.int .u32 0) := (blk_cell HB.out 2).trans rfl; have bf2 := blk_frozen HB.out 2; have b3 : wB.cell? ⟨gB, 3, none⟩ = some (.slice none 0 0) := (blk_cell HB.out 3).trans rfl; have bf3 := blk_frozen HB.out 3; have b4 : wB.cell? ⟨gB, 4, none⟩ = some (.int .i64 0) := (blk_cell HB.out 4).trans rfl; have bf4 := blk_frozen HB.out 4))
    refine (QE.decoder_Check.calls x1 x2 x A c l t _ _ (Kd.C_below HR.out BB.out) HC.out HT.out).mono ?_
    rintro e w1 ⟨rfl, hb1⟩
    have HA2 := Aside0.mk (blk_below HA1.out hb1)
    have HB2 := Aside0.mk (blk_below HB.out hb1)
    have B2 := Aside0.mk (below_step BB.out hb1)
    clear hb1 HA1 HB BB
    clear a0 af0 a1 af1 a2 af2 a3 af3 a4 af4
    clear b0 bf0 b1 bf1 b2 bf2 b3 bf3 b4 bf4
    have a0 : w1.cell? ⟨gA, 0, none⟩ = some (.int .u32 x1) := (blk_cell HA2.out 0).trans rfl
    have af0 := blk_frozen HA2.out 0
    have a1 : w1.cell? ⟨gA, 1, none⟩ = some (.int .u32 x2) := (blk_cell HA2.out 1).trans rfl
    have af1 := blk_frozen HA2.out 1
    have a2 : w1.cell? ⟨gA, 2, none⟩ = some (.int .u32 x) := (blk_cell HA2.out 2).trans rfl
    have af2 := blk_frozen HA2.out 2
    have a3 : w1.cell? ⟨gA, 3, none⟩ = some (.slice A l.length c) := (blk_cell HA2.out 3).trans rfl
    have af3 := blk_frozen HA2.out 3
    have a4 : w1.cell? ⟨gA, 4, none⟩ = some (.int .i64 t) := (blk_cell HA2.out 4).trans rfl
    have af4 := blk_frozen HA2.out 4
    have b0 : w1.cell? ⟨gB, 0, none⟩ = some (.int .u32 0) := (blk_cell HB2.out 0).trans rfl
    have bf0 := blk_frozen HB2.out 0
    have b1 : w1.cell? ⟨gB, 1, none⟩ = some (.int .u32 0) := (blk_cell HB2.out 1).trans rfl
    have bf1 := blk_frozen HB2.out 1
    have b2 : w1.cell? ⟨gB, 2, none⟩ = some (.int .u32 0) := (blk_cell HB2.out 2).trans rfl
    have bf2 := blk_frozen HB2.out 2
    have b3 : w1.cell? ⟨gB, 3, none⟩ = some (.slice none 0 0) := (blk_cell HB2.out 3).trans rfl
    have bf3 := blk_frozen HB2.out 3
    have b4 : w1.cell? ⟨gB, 4, none⟩ = some (.int .i64 0) := (blk_cell HB2.out 4).trans rfl
    have bf4 := blk_frozen HB2.out 4
    go_wp2_with fail
    refine bodyPost_ret (results_ctt rfl _ _ gB 72 #[.int .u32 0, .int .u32 0, .int .u32 0, .slice none 0 0, .int .i64 0] (0, 0) _ rfl (blk_put (blk_put (blk_put (blk_put (blk_put HB2.out 0 _ rfl) 1 _ rfl) 2 _ rfl) 3 _ rfl) 4 _ rfl) Try.underlying72 rfl (by kernel_rfl)) rfl ?_
    exact ⟨_, rfl, Kd.R_nil _ _ _ _ _, (below_set (below_set (below_set (below_set (below_set B2.out GB) GB) GB) GB) GB)⟩

end Go.Proofs.Ytgapkifgddjijaa.Hand
