/- The contract of the reference's Get. Written by wip/h/mkrget.py. -/
import Derived.Test.YtgapkifgddjijaaHandDid
namespace Go.Proofs.Ytgapkifgddjijaa.Hand
open Go.RowKit Go.Proofs.YtgapkifgddjijaaW.PrintWords Go.Proofs.YtgapkifgddjijaaW.PrintLast Go.Proofs.YtgapkifgddjijaaW.PrintMore
open Go.Proofs.Ytgapkifgddjijaa.QE

def RGetf (k : Nat) (x1 x2 x : Int) (l : List Int) (t p : Int) : Option (Int × Int × Int × List Int × Int × Bool × Int) :=
  (bitloftref21_Check.f k x1 x2 x l t).bind fun u => if u = 0 then ((bitloftref20_Prob.f p).bind fun v => if v = true then (if l.length < 140737488355328 then ((Didf k x1 x2 x l t p).bind fun q => if q.2.2.2.1 > 1000000 then some (0, 0, 0, ([] : List Int), 0, false, 4) else some (q.1, q.2.1, q.2.2.1, l, q.2.2.2.1, q.2.2.2.2, 0)) else none) else some (0, 0, 0, ([] : List Int), 0, false, 2)) else some (0, 0, 0, ([] : List Int), 0, false, u)

set_option maxHeartbeats 6400000 in
set_option maxRecDepth 100000 in
theorem RGet_calls (k : Nat) (x1 x2 x : Int) (A : Option Addr) (c : Nat) (l : List Int) (t p : Int) (r1 r2 r3 : Int) (r4 : List Int) (r5 : Int) (r6 : Bool) (r7 : Int) (w : World)
    (hr : Kd.C (Kd.int .u8) w A l.length l) (hc : l.length ≤ c) (h : RGetf k x1 x2 x l t p = some (r1, r2, r3, r4, r5, r6, r7)) :
    Calls Try.prog 51 #[.agg #[.int .u32 x1, .int .u32 x2, .int .u32 x, .slice A l.length c, .int .i64 t], .int .i64 p] w fun e w' => ∃ v3_ : Value, e = .returned (.tuple #[.agg #[.int .u32 r1, .int .u32 r2, .int .u32 r3, v3_, .int .i64 r5], .bool r6, .int .i64 r7]) ∧ Kd.R (Kd.int .u8) 5 w' w.heap.size (fun _ => True) v3_ r4 ∧ Below w.heap.size w w' := by
  have HR := Aside0.mk hr
  have HC := Aside0.mk hc
  clear hr hc
  unfold RGetf at h
  obtain ⟨u, ht, h2⟩ := Option.bind_eq_some_iff.mp h
  clear h
  have HT := Aside0.mk ht
  clear ht
  by_cases ct : u = 0
  · rw [if_pos ct] at h2
    subst ct
    obtain ⟨v, hu, h3⟩ := Option.bind_eq_some_iff.mp h2
    clear h2
    have HU := Aside0.mk hu
    clear hu
    cases v with
    | false =>
      simp only [Bool.false_eq_true, ↓reduceIte, Option.some.injEq, Prod.mk.injEq] at h3
      obtain ⟨rfl, rfl, rfl, rfl, rfl, rfl, rfl⟩ := h3
      go_enter Try.func51, Try.ntmps51
      go_wp2_with (first | ((with_reducible refine gate_dst (N := 2) rfl ?_); refine box_event ?hg (N := 2) ?hd (cs := #[.int .u32 x1, .int .u32 x2, .int .u32 x, .slice A l.length c, .int .i64 t]) (t := 72) ?hr ?_; (case hd => rfl); (case hg => rfl); (case hr => first | (go_simp; done) | (go_simp; rfl)); intro gA hgA wA hA hbA; have HA := Aside0.mk hA; have BA := Aside0.mk hbA; have GA : w.heap.size ≤ gA := Nat.le_of_eq hgA.symm; clear hA hbA hgA) | ((with_reducible refine gate_dst (N := 4) rfl ?_); refine box_event ?hg (N := 4) ?hd (cs := #[.int .u32 0, .int .u32 0, .int .u32 0, .slice none 0 0, .int .i64 0]) (t := 72) ?hr ?_; (case hd => rfl); (case hg => rfl); (case hr => first | (go_simp; done) | (go_simp; rfl)); intro gB hgB wB hB hbB; have HB := Aside0.mk hB; have HA1 := Aside0.mk (blk_below HA.out hbB); have BB := Aside0.mk (below_step BA.out hbB); have GB : w.heap.size ≤ gB := Nat.le_trans BA.out.size (Nat.le_of_eq hgB.symm); have NE : gA ≠ gB := Nat.ne_of_lt (Nat.lt_of_lt_of_eq (blk_lt HA.out) hgB.symm); clear hB hbB hgB HA BA; have a0 : wB.cell? ⟨gA, 0, none⟩ = some (.int .u32 x1) := (blk_cell HA1.out 0).trans rfl; have af0 := blk_frozen HA1.out 0; have a1 : wB.cell? ⟨gA, 1, none⟩ = some (.int .u32 x2) := (blk_cell HA1.out 1).trans rfl; have af1 := blk_frozen HA1.out 1; have a2 : wB.cell? ⟨gA, 2, none⟩ = some (.int .u32 x) := (blk_cell HA1.out 2).trans rfl; have af2 := blk_frozen HA1.out 2; have a3 : wB.cell? ⟨gA, 3, none⟩ = some (.slice A l.length c) := (blk_cell HA1.out 3).trans rfl; have af3 := blk_frozen HA1.out 3; have a4 : wB.cell? ⟨gA, 4, none⟩ = some (.int .i64 t) := (blk_cell HA1.out 4).trans rfl; have af4 := blk_frozen HA1.out 4; have b0 : wB.cell? ⟨gB, 0, none⟩ = some (.int .u32 0) := (blk_cell HB.out 0).trans rfl; have bf0 := blk_frozen HB.out 0; have b1 : wB.cell? ⟨gB, 1, none⟩ = some (.int .u32 0) := (blk_cell HB.out 1).trans rfl; have bf1 := blk_frozen HB.out 1; have b2 : wB.cell? ⟨gB, 2, none⟩ = some (.int .u32 0) := (blk_cell HB.out 2).trans rfl; have bf2 := blk_frozen HB.out 2; have b3 : wB.cell? ⟨gB, 3, none⟩ = some (.slice none 0 0) := (blk_cell HB.out 3).trans rfl; have bf3 := blk_frozen HB.out 3; have b4 : wB.cell? ⟨gB, 4, none⟩ = some (.int .i64 0) := (blk_cell HB.out 4).trans rfl; have bf4 := blk_frozen HB.out 4))
      refine (QE.bitloftref21_Check.calls k x1 x2 x A c l t _ _ (Kd.C_below HR.out BB.out) HC.out HT.out).mono ?_
      rintro e w1 ⟨rfl, hb1⟩
      have HA2 := Aside0.mk (blk_below HA1.out hb1)
      have HB2 := Aside0.mk (blk_below HB.out hb1)
      have B2 := Aside0.mk (below_step BB.out hb1)
      clear hb1 HA1 HB BB
      clear a0 af0 a1 af1 a2 af2 a3 af3 a4 af4
      clear b0 bf0 b1 bf1 b2 bf2 b3 bf3 b4 bf4
      have a0 : w1.cell? ⟨gA, 0, none⟩ = some (.int .u32 x1) := (blk_cell HA2.out 0).trans rfl
      have af0 := blk_frozen HA2.out 0
      have a1 : w1.cell? ⟨gA, 1, none⟩ = some (.int .u32 x2) := (blk_cell HA2.out 1).trans rfl
      have af1 := blk_frozen HA2.out 1
      have a2 : w1.cell? ⟨gA, 2, none⟩ = some (.int .u32 x) := (blk_cell HA2.out 2).trans rfl
      have af2 := blk_frozen HA2.out 2
      have a3 : w1.cell? ⟨gA, 3, none⟩ = some (.slice A l.length c) := (blk_cell HA2.out 3).trans rfl
      have af3 := blk_frozen HA2.out 3
      have a4 : w1.cell? ⟨gA, 4, none⟩ = some (.int .i64 t) := (blk_cell HA2.out 4).trans rfl
      have af4 := blk_frozen HA2.out 4
      have b0 : w1.cell? ⟨gB, 0, none⟩ = some (.int .u32 0) := (blk_cell HB2.out 0).trans rfl
      have bf0 := blk_frozen HB2.out 0
      have b1 : w1.cell? ⟨gB, 1, none⟩ = some (.int .u32 0) := (blk_cell HB2.out 1).trans rfl
      have bf1 := blk_frozen HB2.out 1
      have b2 : w1.cell? ⟨gB, 2, none⟩ = some (.int .u32 0) := (blk_cell HB2.out 2).trans rfl
      have bf2 := blk_frozen HB2.out 2
      have b3 : w1.cell? ⟨gB, 3, none⟩ = some (.slice none 0 0) := (blk_cell HB2.out 3).trans rfl
      have bf3 := blk_frozen HB2.out 3
      have b4 : w1.cell? ⟨gB, 4, none⟩ = some (.int .i64 0) := (blk_cell HB2.out 4).trans rfl
      have bf4 := blk_frozen HB2.out 4
      go_wp2_with fail
      refine (QE.bitloftref20_Prob.calls p false _ HU.out).mono ?_
      rintro e w' ⟨rfl, ⟨nd, rfl⟩⟩
      go_wp2_with fail
      refine bodyPost_ret (results_ctt rfl _ _ gB 72 #[.int .u32 0, .int .u32 0, .int .u32 0, .slice none 0 0, .int .i64 0] (0, 0) _ rfl (blk_put (blk_put (blk_put (blk_put (blk_put (blk_drewN HB2.out _) 0 _ rfl) 1 _ rfl) 2 _ rfl) 3 _ rfl) 4 _ rfl) Try.underlying72 rfl (by kernel_rfl)) rfl ?_
      exact ⟨_, rfl, Kd.R_nil _ _ _ _ _, (below_set (below_set (below_set (below_set (below_set (pw_below_drewN B2.out _) GB) GB) GB) GB) GB)⟩

    | true =>
      rw [if_pos rfl] at h3
      by_cases hl : l.length < 140737488355328
      case neg => rw [if_neg hl] at h3; cases h3
      case pos =>
      rw [if_pos hl] at h3
      obtain ⟨⟨t1, t2, t3, t4, t5⟩, hq, h4⟩ := Option.bind_eq_some_iff.mp h3
      clear h3
      have HQ := Aside0.mk hq
      have HL := Aside0.mk hl
      clear hq
      by_cases c4 : t4 > 1000000
      · simp only [if_pos c4, Option.some.injEq, Prod.mk.injEq] at h4
        obtain ⟨rfl, rfl, rfl, rfl, rfl, rfl, rfl⟩ := h4
        have c4b : decide (1000000 < t4) = true := decide_eq_true c4
        go_enter Try.func51, Try.ntmps51
        go_wp2_with (first | ((with_reducible refine gate_dst (N := 2) rfl ?_); refine box_event ?hg (N := 2) ?hd (cs := #[.int .u32 x1, .int .u32 x2, .int .u32 x, .slice A l.length c, .int .i64 t]) (t := 72) ?hr ?_; (case hd => rfl); (case hg => rfl); (case hr => first | (go_simp; done) | (go_simp; rfl)); intro gA hgA wA hA hbA; have HA := Aside0.mk hA; have BA := Aside0.mk hbA; have GA : w.heap.size ≤ gA := Nat.le_of_eq hgA.symm; clear hA hbA hgA) | ((with_reducible refine gate_dst (N := 4) rfl ?_); refine box_event ?hg (N := 4) ?hd (cs := #[.int .u32 0, .int .u32 0, .int .u32 0, .slice none 0 0, .int .i64 0]) (t := 72) ?hr ?_; (case hd => rfl); (case hg => rfl); (case hr => first | (go_simp; done) | (go_simp; rfl)); intro gB hgB wB hB hbB; have HB := Aside0.mk hB; have HA1 := Aside0.mk (blk_below HA.out hbB); have BB := Aside0.mk (below_step BA.out hbB); have GB : w.heap.size ≤ gB := Nat.le_trans BA.out.size (Nat.le_of_eq hgB.symm); have NE : gA ≠ gB := Nat.ne_of_lt (Nat.lt_of_lt_of_eq (blk_lt HA.out) hgB.symm); clear hB hbB hgB HA BA; have a0 : wB.cell? ⟨gA, 0, none⟩ = some (.int .u32 x1) := (blk_cell HA1.out 0).trans rfl; have af0 := blk_frozen HA1.out 0; have a1 : wB.cell? ⟨gA, 1, none⟩ = some (.int .u32 x2) := (blk_cell HA1.out 1).trans rfl; have af1 := blk_frozen HA1.out 1; have a2 : wB.cell? ⟨gA, 2, none⟩ = some (.int .u32 x) := (blk_cell HA1.out 2).trans rfl; have af2 := blk_frozen HA1.out 2; have a3 : wB.cell? ⟨gA, 3, none⟩ = some (.slice A l.length c) := (blk_cell HA1.out 3).trans rfl; have af3 := blk_frozen HA1.out 3; have a4 : wB.cell? ⟨gA, 4, none⟩ = some (.int .i64 t) := (blk_cell HA1.out 4).trans rfl; have af4 := blk_frozen HA1.out 4; have b0 : wB.cell? ⟨gB, 0, none⟩ = some (.int .u32 0) := (blk_cell HB.out 0).trans rfl; have bf0 := blk_frozen HB.out 0; have b1 : wB.cell? ⟨gB, 1, none⟩ = some (.int .u32 0) := (blk_cell HB.out 1).trans rfl; have bf1 := blk_frozen HB.out 1; have b2 : wB.cell? ⟨gB, 2, none⟩ = some (.int .u32 0) := (blk_cell HB.out 2).trans rfl; have bf2 := blk_frozen HB.out 2; have b3 : wB.cell? ⟨gB, 3, none⟩ = some (.slice none 0 0) := (blk_cell HB.out 3).trans rfl; have bf3 := blk_frozen HB.out 3; have b4 : wB.cell? ⟨gB, 4, none⟩ = some (.int .i64 0) := (blk_cell HB.out 4).trans rfl; have bf4 := blk_frozen HB.out 4))
        refine (QE.bitloftref21_Check.calls k x1 x2 x A c l t _ _ (Kd.C_below HR.out BB.out) HC.out HT.out).mono ?_
        rintro e w1 ⟨rfl, hb1⟩
        have HA2 := Aside0.mk (blk_below HA1.out hb1)
        have HB2 := Aside0.mk (blk_below HB.out hb1)
        have B2 := Aside0.mk (below_step BB.out hb1)
        clear hb1 HA1 HB BB
        clear a0 af0 a1 af1 a2 af2 a3 af3 a4 af4
        clear b0 bf0 b1 bf1 b2 bf2 b3 bf3 b4 bf4
        have a0 : w1.cell? ⟨gA, 0, none⟩ = some (.int .u32 x1) := (blk_cell HA2.out 0).trans rfl
        have af0 := blk_frozen HA2.out 0
        have a1 : w1.cell? ⟨gA, 1, none⟩ = some (.int .u32 x2) := (blk_cell HA2.out 1).trans rfl
        have af1 := blk_frozen HA2.out 1
        have a2 : w1.cell? ⟨gA, 2, none⟩ = some (.int .u32 x) := (blk_cell HA2.out 2).trans rfl
        have af2 := blk_frozen HA2.out 2
        have a3 : w1.cell? ⟨gA, 3, none⟩ = some (.slice A l.length c) := (blk_cell HA2.out 3).trans rfl
        have af3 := blk_frozen HA2.out 3
        have a4 : w1.cell? ⟨gA, 4, none⟩ = some (.int .i64 t) := (blk_cell HA2.out 4).trans rfl
        have af4 := blk_frozen HA2.out 4
        have b0 : w1.cell? ⟨gB, 0, none⟩ = some (.int .u32 0) := (blk_cell HB2.out 0).trans rfl
        have bf0 := blk_frozen HB2.out 0
        have b1 : w1.cell? ⟨gB, 1, none⟩ = some (.int .u32 0) := (blk_cell HB2.out 1).trans rfl
        have bf1 := blk_frozen HB2.out 1
        have b2 : w1.cell? ⟨gB, 2, none⟩ = some (.int .u32 0) := (blk_cell HB2.out 2).trans rfl
        have bf2 := blk_frozen HB2.out 2
        have b3 : w1.cell? ⟨gB, 3, none⟩ = some (.slice none 0 0) := (blk_cell HB2.out 3).trans rfl
        have bf3 := blk_frozen HB2.out 3
        have b4 : w1.cell? ⟨gB, 4, none⟩ = some (.int .i64 0) := (blk_cell HB2.out 4).trans rfl
        have bf4 := blk_frozen HB2.out 4
        go_wp2_with fail
        refine (QE.bitloftref20_Prob.calls p true _ HU.out).mono ?_
        rintro e w' ⟨rfl, ⟨nd, rfl⟩⟩
        go_wp2_with fail
        refine (Did_calls k x1 x2 x A c l t p t1 t2 t3 t4 t5 _ (Kd.C_drewN (Kd.C_below HR.out B2.out) _) HC.out HQ.out).mono ?_
        rintro e w2 ⟨rfl, hb2⟩
        have HA3 := Aside0.mk (blk_below (blk_drewN HA2.out _) hb2)
        have HB3 := Aside0.mk (blk_below (blk_drewN HB2.out _) hb2)
        have B3 := Aside0.mk (below_step (pw_below_drewN B2.out _) hb2)
        clear hb2 HA2 HB2 B2
        clear a0 af0 a1 af1 a2 af2 a3 af3 a4 af4
        clear b0 bf0 b1 bf1 b2 bf2 b3 bf3 b4 bf4
        go_wp2_with (first | ((with_reducible refine gate_dst (N := 7) rfl ?_); refine box_event ?hg (N := 7) ?hd (cs := #[.int .u32 0, .int .u32 0, .int .u32 0, .slice none 0 0, .int .i64 0]) (t := 72) ?hr ?_; (case hd => rfl); (case hg => rfl); (case hr => first | (go_simp; done) | (go_simp; rfl)); intro gC hgC wC hC hbC; have HC4 := Aside0.mk hC; have HA4 := Aside0.mk (blk_below HA3.out hbC); have HB4 := Aside0.mk (blk_below HB3.out hbC); have B4 := Aside0.mk (below_step B3.out hbC); have GC : w.heap.size ≤ gC := Nat.le_trans B3.out.size (Nat.le_of_eq hgC.symm); have NC : gB ≠ gC := Nat.ne_of_lt (Nat.lt_of_lt_of_eq (blk_lt HB3.out) hgC.symm); have NA : gA ≠ gC := Nat.ne_of_lt (Nat.lt_of_lt_of_eq (blk_lt HA3.out) hgC.symm); clear hC hbC hgC HA3 HB3 B3; have c0 : wC.cell? ⟨gC, 0, none⟩ = some (.int .u32 0) := (blk_cell HC4.out 0).trans rfl; have cf0 := blk_frozen HC4.out 0; have c1 : wC.cell? ⟨gC, 1, none⟩ = some (.int .u32 0) := (blk_cell HC4.out 1).trans rfl; have cf1 := blk_frozen HC4.out 1; have c2 : wC.cell? ⟨gC, 2, none⟩ = some (.int .u32 0) := (blk_cell HC4.out 2).trans rfl; have cf2 := blk_frozen HC4.out 2; have c3 : wC.cell? ⟨gC, 3, none⟩ = some (.slice none 0 0) := (blk_cell HC4.out 3).trans rfl; have cf3 := blk_frozen HC4.out 3; have c4 : wC.cell? ⟨gC, 4, none⟩ = some (.int .i64 0) := (blk_cell HC4.out 4).trans rfl; have cf4 := blk_frozen HC4.out 4) | ((with_reducible refine gate_dst (N := 25) rfl ?_); have HC5 := Aside0.mk (show (World.setCell (World.setCell (World.setCell (World.setCell (World.setCell wC ⟨gC, 0, none⟩ (.int .u32 t1)) ⟨gC, 1, none⟩ (.int .u32 t2)) ⟨gC, 2, none⟩ (.int .u32 t3)) ⟨gC, 3, none⟩ (.slice A l.length c)) ⟨gC, 4, none⟩ (.int .i64 t4)).heap[gC]? = some (.cells #[.int .u32 t1, .int .u32 t2, .int .u32 t3, .slice A l.length c, .int .i64 t4] 72 (0, 0)) from (blk_put (blk_put (blk_put (blk_put (blk_put HC4.out 0 _ rfl) 1 _ rfl) 2 _ rfl) 3 _ rfl) 4 _ rfl)); have HA5 := Aside0.mk (show (World.setCell (World.setCell (World.setCell (World.setCell (World.setCell wC ⟨gC, 0, none⟩ (.int .u32 t1)) ⟨gC, 1, none⟩ (.int .u32 t2)) ⟨gC, 2, none⟩ (.int .u32 t3)) ⟨gC, 3, none⟩ (.slice A l.length c)) ⟨gC, 4, none⟩ (.int .i64 t4)).heap[gA]? = some (.cells #[.int .u32 x1, .int .u32 x2, .int .u32 x, .slice A l.length c, .int .i64 t] 72 (0, 0)) from (blk_far (blk_far (blk_far (blk_far (blk_far HA4.out NA _) NA _) NA _) NA _) NA _)); have HB5 := Aside0.mk (show (World.setCell (World.setCell (World.setCell (World.setCell (World.setCell wC ⟨gC, 0, none⟩ (.int .u32 t1)) ⟨gC, 1, none⟩ (.int .u32 t2)) ⟨gC, 2, none⟩ (.int .u32 t3)) ⟨gC, 3, none⟩ (.slice A l.length c)) ⟨gC, 4, none⟩ (.int .i64 t4)).heap[gB]? = some (.cells #[.int .u32 0, .int .u32 0, .int .u32 0, .slice none 0 0, .int .i64 0] 72 (0, 0)) from (blk_far (blk_far (blk_far (blk_far (blk_far HB4.out NC _) NC _) NC _) NC _) NC _)); have B5 := Aside0.mk (show Below w.heap.size w (World.setCell (World.setCell (World.setCell (World.setCell (World.setCell wC ⟨gC, 0, none⟩ (.int .u32 t1)) ⟨gC, 1, none⟩ (.int .u32 t2)) ⟨gC, 2, none⟩ (.int .u32 t3)) ⟨gC, 3, none⟩ (.slice A l.length c)) ⟨gC, 4, none⟩ (.int .i64 t4)) from (below_set (below_set (below_set (below_set (below_set B4.out GC) GC) GC) GC) GC)); clear HC4 HA4 HB4 B4 c0 cf0 c1 cf1 c2 cf2 c3 cf3 c4 cf4; generalize (World.setCell (World.setCell (World.setCell (World.setCell (World.setCell wC ⟨gC, 0, none⟩ (.int .u32 t1)) ⟨gC, 1, none⟩ (.int .u32 t2)) ⟨gC, 2, none⟩ (.int .u32 t3)) ⟨gC, 3, none⟩ (.slice A l.length c)) ⟨gC, 4, none⟩ (.int .i64 t4)) = w5 at HC5 HA5 HB5 B5 ⊢; have c0 : w5.cell? ⟨gC, 0, none⟩ = some (.int .u32 t1) := (blk_cell HC5.out 0).trans rfl; have cf0 := blk_frozen HC5.out 0; have c1 : w5.cell? ⟨gC, 1, none⟩ = some (.int .u32 t2) := (blk_cell HC5.out 1).trans rfl; have cf1 := blk_frozen HC5.out 1; have c2 : w5.cell? ⟨gC, 2, none⟩ = some (.int .u32 t3) := (blk_cell HC5.out 2).trans rfl; have cf2 := blk_frozen HC5.out 2; have c3 : w5.cell? ⟨gC, 3, none⟩ = some (.slice A l.length c) := (blk_cell HC5.out 3).trans rfl; have cf3 := blk_frozen HC5.out 3; have c4 : w5.cell? ⟨gC, 4, none⟩ = some (.int .i64 t4) := (blk_cell HC5.out 4).trans rfl; have cf4 := blk_frozen HC5.out 4; have b0 : w5.cell? ⟨gB, 0, none⟩ = some (.int .u32 0) := (blk_cell HB5.out 0).trans rfl; have bf0 := blk_frozen HB5.out 0; have b1 : w5.cell? ⟨gB, 1, none⟩ = some (.int .u32 0) := (blk_cell HB5.out 1).trans rfl; have bf1 := blk_frozen HB5.out 1; have b2 : w5.cell? ⟨gB, 2, none⟩ = some (.int .u32 0) := (blk_cell HB5.out 2).trans rfl; have bf2 := blk_frozen HB5.out 2; have b3 : w5.cell? ⟨gB, 3, none⟩ = some (.slice none 0 0) := (blk_cell HB5.out 3).trans rfl; have bf3 := blk_frozen HB5.out 3; have b4 : w5.cell? ⟨gB, 4, none⟩ = some (.int .i64 0) := (blk_cell HB5.out 4).trans rfl; have bf4 := blk_frozen HB5.out 4; have a0 : w5.cell? ⟨gA, 0, none⟩ = some (.int .u32 x1) := (blk_cell HA5.out 0).trans rfl; have af0 := blk_frozen HA5.out 0; have a1 : w5.cell? ⟨gA, 1, none⟩ = some (.int .u32 x2) := (blk_cell HA5.out 1).trans rfl; have af1 := blk_frozen HA5.out 1; have a2 : w5.cell? ⟨gA, 2, none⟩ = some (.int .u32 x) := (blk_cell HA5.out 2).trans rfl; have af2 := blk_frozen HA5.out 2; have a3 : w5.cell? ⟨gA, 3, none⟩ = some (.slice A l.length c) := (blk_cell HA5.out 3).trans rfl; have af3 := blk_frozen HA5.out 3; have a4 : w5.cell? ⟨gA, 4, none⟩ = some (.int .i64 t) := (blk_cell HA5.out 4).trans rfl; have af4 := blk_frozen HA5.out 4))
        refine bodyPost_ret (results_ctt rfl _ _ gB 72 #[.int .u32 0, .int .u32 0, .int .u32 0, .slice none 0 0, .int .i64 0] (0, 0) _ rfl (blk_put (blk_put (blk_put (blk_put (blk_put HB5.out 0 _ rfl) 1 _ rfl) 2 _ rfl) 3 _ rfl) 4 _ rfl) Try.underlying72 rfl (by kernel_rfl)) rfl ?_
        exact ⟨_, rfl, Kd.R_nil _ _ _ _ _, (below_set (below_set (below_set (below_set (below_set B5.out GB) GB) GB) GB) GB)⟩

      · simp only [if_neg c4, Option.some.injEq, Prod.mk.injEq] at h4
        obtain ⟨rfl, rfl, rfl, rfl, rfl, rfl, rfl⟩ := h4
        have c4b : decide (1000000 < t4) = false := decide_eq_false c4
        go_enter Try.func51, Try.ntmps51
        go_wp2_with (first | ((with_reducible refine gate_dst (N := 2) rfl ?_); refine box_event ?hg (N := 2) ?hd (cs := #[.int .u32 x1, .int .u32 x2, .int .u32 x, .slice A l.length c, .int .i64 t]) (t := 72) ?hr ?_; (case hd => rfl); (case hg => rfl); (case hr => first | (go_simp; done) | (go_simp; rfl)); intro gA hgA wA hA hbA; have HA := Aside0.mk hA; have BA := Aside0.mk hbA; have GA : w.heap.size ≤ gA := Nat.le_of_eq hgA.symm; clear hA hbA hgA) | ((with_reducible refine gate_dst (N := 4) rfl ?_); refine box_event ?hg (N := 4) ?hd (cs := #[.int .u32 0, .int .u32 0, .int .u32 0, .slice none 0 0, .int .i64 0]) (t := 72) ?hr ?_; (case hd => rfl); (case hg => rfl); (case hr => first | (go_simp; done) | (go_simp; rfl)); intro gB hgB wB hB hbB; have HB := Aside0.mk hB; have HA1 := Aside0.mk (blk_below HA.out hbB); have BB := Aside0.mk (below_step BA.out hbB); have GB : w.heap.size ≤ gB := Nat.le_trans BA.out.size (Nat.le_of_eq hgB.symm); have NE : gA ≠ gB := Nat.ne_of_lt (Nat.lt_of_lt_of_eq (blk_lt HA.out) hgB.symm); clear hB hbB hgB HA BA; have a0 : wB.cell? ⟨gA, 0, none⟩ = some (.int .u32 x1) := (blk_cell HA1.out 0).trans rfl; have af0 := blk_frozen HA1.out 0; have a1 : wB.cell? ⟨gA, 1, none⟩ = some (.int .u32 x2) := (blk_cell HA1.out 1).trans rfl; have af1 := blk_frozen HA1.out 1; have a2 : wB.cell? ⟨gA, 2, none⟩ = some (.int .u32 x) := (blk_cell HA1.out 2).trans rfl; have af2 := blk_frozen HA1.out 2; have a3 : wB.cell? ⟨gA, 3, none⟩ = some (.slice A l.length c) := (blk_cell HA1.out 3).trans rfl; have af3 := blk_frozen HA1.out 3; have a4 : wB.cell? ⟨gA, 4, none⟩ = some (.int .i64 t) := (blk_cell HA1.out 4).trans rfl; have af4 := blk_frozen HA1.out 4; have b0 : wB.cell? ⟨gB, 0, none⟩ = some (.int .u32 0) := (blk_cell HB.out 0).trans rfl; have bf0 := blk_frozen HB.out 0; have b1 : wB.cell? ⟨gB, 1, none⟩ = some (.int .u32 0) := (blk_cell HB.out 1).trans rfl; have bf1 := blk_frozen HB.out 1; have b2 : wB.cell? ⟨gB, 2, none⟩ = some (.int .u32 0) := (blk_cell HB.out 2).trans rfl; have bf2 := blk_frozen HB.out 2; have b3 : wB.cell? ⟨gB, 3, none⟩ = some (.slice none 0 0) := (blk_cell HB.out 3).trans rfl; have bf3 := blk_frozen HB.out 3; have b4 : wB.cell? ⟨gB, 4, none⟩ = some (.int .i64 0) := (blk_cell HB.out 4).trans rfl; have bf4 := blk_frozen HB.out 4))
        refine (QE.bitloftref21_Check.calls k x1 x2 x A c l t _ _ (Kd.C_below HR.out BB.out) HC.out HT.out).mono ?_
        rintro e w1 ⟨rfl, hb1⟩
        have HA2 := Aside0.mk (blk_below HA1.out hb1)
        have HB2 := Aside0.mk (blk_below HB.out hb1)
        have B2 := Aside0.mk (below_step BB.out hb1)
        clear hb1 HA1 HB BB
        clear a0 af0 a1 af1 a2 af2 a3 af3 a4 af4
        clear b0 bf0 b1 bf1 b2 bf2 b3 bf3 b4 bf4
        have a0 : w1.cell? ⟨gA, 0, none⟩ = some (.int .u32 x1) := (blk_cell HA2.out 0).trans rfl
        have af0 := blk_frozen HA2.out 0
        have a1 : w1.cell? ⟨gA, 1, none⟩ = some (.int .u32 x2) := (blk_cell HA2.out 1).trans rfl
        have af1 := blk_frozen HA2.out 1
        have a2 : w1.cell? ⟨gA, 2, none⟩ = some (.int .u32 x) := (blk_cell HA2.out 2).trans rfl
        have af2 := blk_frozen HA2.out 2
        have a3 : w1.cell? ⟨gA, 3, none⟩ = some (.slice A l.length c) := (blk_cell HA2.out 3).trans rfl
        have af3 := blk_frozen HA2.out 3
        have a4 : w1.cell? ⟨gA, 4, none⟩ = some (.int .i64 t) := (blk_cell HA2.out 4).trans rfl
        have af4 := blk_frozen HA2.out 4
        have b0 : w1.cell? ⟨gB, 0, none⟩ = some (.int .u32 0) := (blk_cell HB2.out 0).trans rfl
        have bf0 := blk_frozen HB2.out 0
        have b1 : w1.cell? ⟨gB, 1, none⟩ = some (.int .u32 0) := (blk_cell HB2.out 1).trans rfl
        have bf1 := blk_frozen HB2.out 1
        have b2 : w1.cell? ⟨gB, 2, none⟩ = some (.int .u32 0) := (blk_cell HB2.out 2).trans rfl
        have bf2 := blk_frozen HB2.out 2
        have b3 : w1.cell? ⟨gB, 3, none⟩ = some (.slice none 0 0) := (blk_cell HB2.out 3).trans rfl
        have bf3 := blk_frozen HB2.out 3
        have b4 : w1.cell? ⟨gB, 4, none⟩ = some (.int .i64 0) := (blk_cell HB2.out 4).trans rfl
        have bf4 := blk_frozen HB2.out 4
        go_wp2_with fail
        refine (QE.bitloftref20_Prob.calls p true _ HU.out).mono ?_
        rintro e w' ⟨rfl, ⟨nd, rfl⟩⟩
        go_wp2_with fail
        refine (Did_calls k x1 x2 x A c l t p t1 t2 t3 t4 t5 _ (Kd.C_drewN (Kd.C_below HR.out B2.out) _) HC.out HQ.out).mono ?_
        rintro e w2 ⟨rfl, hb2⟩
        have HA3 := Aside0.mk (blk_below (blk_drewN HA2.out _) hb2)
        have HB3 := Aside0.mk (blk_below (blk_drewN HB2.out _) hb2)
        have B3 := Aside0.mk (below_step (pw_below_drewN B2.out _) hb2)
        clear hb2 HA2 HB2 B2
        clear a0 af0 a1 af1 a2 af2 a3 af3 a4 af4
        clear b0 bf0 b1 bf1 b2 bf2 b3 bf3 b4 bf4
        go_wp2_with (first | ((with_reducible refine gate_dst (N := 7) rfl ?_); refine box_event ?hg (N := 7) ?hd (cs := #[.int .u32 0, .int .u32 0, .int .u32 0, .slice none 0 0, .int .i64 0]) (t := 72) ?hr ?_; (case hd => rfl); (case hg => rfl); (case hr => first | (go_simp; done) | (go_simp; rfl)); intro gC hgC wC hC hbC; have HC4 := Aside0.mk hC; have HA4 := Aside0.mk (blk_below HA3.out hbC); have HB4 := Aside0.mk (blk_below HB3.out hbC); have B4 := Aside0.mk (below_step B3.out hbC); have GC : w.heap.size ≤ gC := Nat.le_trans B3.out.size (Nat.le_of_eq hgC.symm); have NC : gB ≠ gC := Nat.ne_of_lt (Nat.lt_of_lt_of_eq (blk_lt HB3.out) hgC.symm); have NA : gA ≠ gC := Nat.ne_of_lt (Nat.lt_of_lt_of_eq (blk_lt HA3.out) hgC.symm); clear hC hbC hgC HA3 HB3 B3; have c0 : wC.cell? ⟨gC, 0, none⟩ = some (.int .u32 0) := (blk_cell HC4.out 0).trans rfl; have cf0 := blk_frozen HC4.out 0; have c1 : wC.cell? ⟨gC, 1, none⟩ = some (.int .u32 0) := (blk_cell HC4.out 1).trans rfl; have cf1 := blk_frozen HC4.out 1; have c2 : wC.cell? ⟨gC, 2, none⟩ = some (.int .u32 0) := (blk_cell HC4.out 2).trans rfl; have cf2 := blk_frozen HC4.out 2; have c3 : wC.cell? ⟨gC, 3, none⟩ = some (.slice none 0 0) := (blk_cell HC4.out 3).trans rfl; have cf3 := blk_frozen HC4.out 3; have c4 : wC.cell? ⟨gC, 4, none⟩ = some (.int .i64 0) := (blk_cell HC4.out 4).trans rfl; have cf4 := blk_frozen HC4.out 4) | ((with_reducible refine gate_dst (N := 25) rfl ?_); have HC5 := Aside0.mk (show (World.setCell (World.setCell (World.setCell (World.setCell (World.setCell wC ⟨gC, 0, none⟩ (.int .u32 t1)) ⟨gC, 1, none⟩ (.int .u32 t2)) ⟨gC, 2, none⟩ (.int .u32 t3)) ⟨gC, 3, none⟩ (.slice A l.length c)) ⟨gC, 4, none⟩ (.int .i64 t4)).heap[gC]? = some (.cells #[.int .u32 t1, .int .u32 t2, .int .u32 t3, .slice A l.length c, .int .i64 t4] 72 (0, 0)) from (blk_put (blk_put (blk_put (blk_put (blk_put HC4.out 0 _ rfl) 1 _ rfl) 2 _ rfl) 3 _ rfl) 4 _ rfl)); have HA5 := Aside0.mk (show (World.setCell (World.setCell (World.setCell (World.setCell (World.setCell wC ⟨gC, 0, none⟩ (.int .u32 t1)) ⟨gC, 1, none⟩ (.int .u32 t2)) ⟨gC, 2, none⟩ (.int .u32 t3)) ⟨gC, 3, none⟩ (.slice A l.length c)) ⟨gC, 4, none⟩ (.int .i64 t4)).heap[gA]? = some (.cells #[.int .u32 x1, .int .u32 x2, .int .u32 x, .slice A l.length c, .int .i64 t] 72 (0, 0)) from (blk_far (blk_far (blk_far (blk_far (blk_far HA4.out NA _) NA _) NA _) NA _) NA _)); have HB5 := Aside0.mk (show (World.setCell (World.setCell (World.setCell (World.setCell (World.setCell wC ⟨gC, 0, none⟩ (.int .u32 t1)) ⟨gC, 1, none⟩ (.int .u32 t2)) ⟨gC, 2, none⟩ (.int .u32 t3)) ⟨gC, 3, none⟩ (.slice A l.length c)) ⟨gC, 4, none⟩ (.int .i64 t4)).heap[gB]? = some (.cells #[.int .u32 0, .int .u32 0, .int .u32 0, .slice none 0 0, .int .i64 0] 72 (0, 0)) from (blk_far (blk_far (blk_far (blk_far (blk_far HB4.out NC _) NC _) NC _) NC _) NC _)); have B5 := Aside0.mk (show Below w.heap.size w (World.setCell (World.setCell (World.setCell (World.setCell (World.setCell wC ⟨gC, 0, none⟩ (.int .u32 t1)) ⟨gC, 1, none⟩ (.int .u32 t2)) ⟨gC, 2, none⟩ (.int .u32 t3)) ⟨gC, 3, none⟩ (.slice A l.length c)) ⟨gC, 4, none⟩ (.int .i64 t4)) from (below_set (below_set (below_set (below_set (below_set B4.out GC) GC) GC) GC) GC)); clear HC4 HA4 HB4 B4 c0 cf0 c1 cf1 c2 cf2 c3 cf3 c4 cf4; generalize (World.setCell (World.setCell (World.setCell (World.setCell (World.setCell wC ⟨gC, 0, none⟩ (.int .u32 t1)) ⟨gC, 1, none⟩ (.int .u32 t2)) ⟨gC, 2, none⟩ (.int .u32 t3)) ⟨gC, 3, none⟩ (.slice A l.length c)) ⟨gC, 4, none⟩ (.int .i64 t4)) = w5 at HC5 HA5 HB5 B5 ⊢; have c0 : w5.cell? ⟨gC, 0, none⟩ = some (.int .u32 t1) := (blk_cell HC5.out 0).trans rfl; have cf0 := blk_frozen HC5.out 0; have c1 : w5.cell? ⟨gC, 1, none⟩ = some (.int .u32 t2) := (blk_cell HC5.out 1).trans rfl; have cf1 := blk_frozen HC5.out 1; have c2 : w5.cell? ⟨gC, 2, none⟩ = some (.int .u32 t3) := (blk_cell HC5.out 2).trans rfl; have cf2 := blk_frozen HC5.out 2; have c3 : w5.cell? ⟨gC, 3, none⟩ = some (.slice A l.length c) := (blk_cell HC5.out 3).trans rfl; have cf3 := blk_frozen HC5.out 3; have c4 : w5.cell? ⟨gC, 4, none⟩ = some (.int .i64 t4) := (blk_cell HC5.out 4).trans rfl; have cf4 := blk_frozen HC5.out 4; have b0 : w5.cell? ⟨gB, 0, none⟩ = some (.int .u32 0) := (blk_cell HB5.out 0).trans rfl; have bf0 := blk_frozen HB5.out 0; have b1 : w5.cell? ⟨gB, 1, none⟩ = some (.int .u32 0) := (blk_cell HB5.out 1).trans rfl; have bf1 := blk_frozen HB5.out 1; have b2 : w5.cell? ⟨gB, 2, none⟩ = some (.int .u32 0) := (blk_cell HB5.out 2).trans rfl; have bf2 := blk_frozen HB5.out 2; have b3 : w5.cell? ⟨gB, 3, none⟩ = some (.slice none 0 0) := (blk_cell HB5.out 3).trans rfl; have bf3 := blk_frozen HB5.out 3; have b4 : w5.cell? ⟨gB, 4, none⟩ = some (.int .i64 0) := (blk_cell HB5.out 4).trans rfl; have bf4 := blk_frozen HB5.out 4; have a0 : w5.cell? ⟨gA, 0, none⟩ = some (.int .u32 x1) := (blk_cell HA5.out 0).trans rfl; have af0 := blk_frozen HA5.out 0; have a1 : w5.cell? ⟨gA, 1, none⟩ = some (.int .u32 x2) := (blk_cell HA5.out 1).trans rfl; have af1 := blk_frozen HA5.out 1; have a2 : w5.cell? ⟨gA, 2, none⟩ = some (.int .u32 x) := (blk_cell HA5.out 2).trans rfl; have af2 := blk_frozen HA5.out 2; have a3 : w5.cell? ⟨gA, 3, none⟩ = some (.slice A l.length c) := (blk_cell HA5.out 3).trans rfl; have af3 := blk_frozen HA5.out 3; have a4 : w5.cell? ⟨gA, 4, none⟩ = some (.int .i64 t) := (blk_cell HA5.out 4).trans rfl; have af4 := blk_frozen HA5.out 4) | ((with_reducible refine gate_dst (N := 29) rfl ?_); refine Kd.R_lit (Kd.int .u8) _ 5 ?hg (N := 29) ?hd (xs := ([] : List Int)) (inner := []) (ok := fun _ => True) (okp := fun _ => True) ?hr ?hp (fun _ hk => hk) trivial (Below.refl _ _) (Nat.le_refl _) (by simp) ?_; (case hd => rfl); (case hg => rfl); (case hr => first | (go_simp; done) | (go_simp; rfl)); (case hp => exact (Reps.none _ _)); intro v6 w6 ho hb hg_ hnew_; have HO6 := Aside0.mk ho; have HW6 := Aside0.mk hb; have HA6 := Aside0.mk (blk_below HA5.out hb); have HB6 := Aside0.mk (blk_below HB5.out hb); have HC6 := Aside0.mk (blk_below HC5.out hb); have B6 := Aside0.mk (below_step B5.out hb); have B5o := Aside0.mk B5.out; have S5 := Aside0.mk B5.out.size; clear hg_ hnew_ ho hb HA5 HB5 HC5 B5 a0 af0 a1 af1 a2 af2 a3 af3 a4 af4 b0 bf0 b1 bf1 b2 bf2 b3 bf3 b4 bf4 c0 cf0 c1 cf1 c2 cf2 c3 cf3 c4 cf4; have a0 : w6.cell? ⟨gA, 0, none⟩ = some (.int .u32 x1) := (blk_cell HA6.out 0).trans rfl; have af0 := blk_frozen HA6.out 0; have a1 : w6.cell? ⟨gA, 1, none⟩ = some (.int .u32 x2) := (blk_cell HA6.out 1).trans rfl; have af1 := blk_frozen HA6.out 1; have a2 : w6.cell? ⟨gA, 2, none⟩ = some (.int .u32 x) := (blk_cell HA6.out 2).trans rfl; have af2 := blk_frozen HA6.out 2; have a3 : w6.cell? ⟨gA, 3, none⟩ = some (.slice A l.length c) := (blk_cell HA6.out 3).trans rfl; have af3 := blk_frozen HA6.out 3; have a4 : w6.cell? ⟨gA, 4, none⟩ = some (.int .i64 t) := (blk_cell HA6.out 4).trans rfl; have af4 := blk_frozen HA6.out 4) | ((with_reducible refine gate_builtin (b := .append) (xs := #[.tmp 29, .tmp 31]) rfl ?_); at_builtin; refine Kd.R_append_rows (Kd.int .u8) (w0 := w5) w5.heap.size rfl (.tmp 29) (.tmp 31) 30 5 (.int .u8 0) 1 rfl Try.underlying30 info5 rfl (by decide) (by omega) v6 [] l _ _ _ (fun _ => True) (fun _ => False) rfl rfl HO6.out (Kd.C_below HR.out B6.out) (fun _ _ h => h) (fun _ h => h.elim) (fun _ _ => trivial) HW6.out HW6.out.size (by have := HL.out; simp; omega) ?_; intro v7 w7 ho2 hb2 hg2 hat2; have HO7 := Aside0.mk (show Kd.R (Kd.int .u8) 5 w7 w5.heap.size (fun _ => True) v7 l by simpa using ho2); have HA7 := Aside0.mk (blk_grown HA6.out hg2 (Kd.R_ne HO6.out HA6.out (by decide))); have HB7 := Aside0.mk (blk_grown HB6.out hg2 (Kd.R_ne HO6.out HB6.out (by decide))); have HC7 := Aside0.mk (blk_grown HC6.out hg2 (Kd.R_ne HO6.out HC6.out (by decide))); have B7 := Aside0.mk (below_step (Below.refl w.heap.size w) (⟨by rw [hb2.os]; exact B5o.out.os, by rw [hb2.tape]; exact B5o.out.tape, by rw [hb2.output]; exact B5o.out.output, Nat.le_trans B5o.out.size hb2.size, fun k_ hk => (hb2.block k_ (Nat.lt_of_lt_of_le hk S5.out)).trans (B5o.out.block k_ hk)⟩ : Below w.heap.size w w7)); obtain ⟨A7, k7, e7⟩ := Kd.R_slice HO7.out; subst e7; clear ho2 hb2 hg2 hat2 HO6 HW6 HA6 HB6 HC6 B6 B5o a0 af0 a1 af1 a2 af2 a3 af3 a4 af4; have c0 : w7.cell? ⟨gC, 0, none⟩ = some (.int .u32 t1) := (blk_cell HC7.out 0).trans rfl; have cf0 := blk_frozen HC7.out 0; have c1 : w7.cell? ⟨gC, 1, none⟩ = some (.int .u32 t2) := (blk_cell HC7.out 1).trans rfl; have cf1 := blk_frozen HC7.out 1; have c2 : w7.cell? ⟨gC, 2, none⟩ = some (.int .u32 t3) := (blk_cell HC7.out 2).trans rfl; have cf2 := blk_frozen HC7.out 2; have c3 : w7.cell? ⟨gC, 3, none⟩ = some (.slice A l.length c) := (blk_cell HC7.out 3).trans rfl; have cf3 := blk_frozen HC7.out 3; have c4 : w7.cell? ⟨gC, 4, none⟩ = some (.int .i64 t4) := (blk_cell HC7.out 4).trans rfl; have cf4 := blk_frozen HC7.out 4; have b0 : w7.cell? ⟨gB, 0, none⟩ = some (.int .u32 0) := (blk_cell HB7.out 0).trans rfl; have bf0 := blk_frozen HB7.out 0; have b1 : w7.cell? ⟨gB, 1, none⟩ = some (.int .u32 0) := (blk_cell HB7.out 1).trans rfl; have bf1 := blk_frozen HB7.out 1; have b2 : w7.cell? ⟨gB, 2, none⟩ = some (.int .u32 0) := (blk_cell HB7.out 2).trans rfl; have bf2 := blk_frozen HB7.out 2; have b3 : w7.cell? ⟨gB, 3, none⟩ = some (.slice none 0 0) := (blk_cell HB7.out 3).trans rfl; have bf3 := blk_frozen HB7.out 3; have b4 : w7.cell? ⟨gB, 4, none⟩ = some (.int .i64 0) := (blk_cell HB7.out 4).trans rfl; have bf4 := blk_frozen HB7.out 4))
        refine bodyPost_ret (results_ctt rfl _ _ gB 72 #[.int .u32 t1, .int .u32 t2, .int .u32 t3, .slice A7 l.length k7, .int .i64 t4] (0, 0) _ rfl (blk_put (blk_put (blk_put (blk_put (blk_put (blk_far HB7.out NC _) 0 _ rfl) 1 _ rfl) 2 _ rfl) 3 _ rfl) 4 _ rfl) Try.underlying72 rfl (by kernel_rfl)) rfl ?_
        exact ⟨_, rfl, (Kd.R_set (Kd.R_set (Kd.R_set (Kd.R_set (Kd.R_set (Kd.R_lower (Kd.R_set HO7.out HC7.out (by decide) 3 _) S5.out) (blk_far HB7.out NC _) (by decide) 0 _) (blk_put (blk_far HB7.out NC _) 0 _ rfl) (by decide) 1 _) (blk_put (blk_put (blk_far HB7.out NC _) 0 _ rfl) 1 _ rfl) (by decide) 2 _) (blk_put (blk_put (blk_put (blk_far HB7.out NC _) 0 _ rfl) 1 _ rfl) 2 _ rfl) (by decide) 3 _) (blk_put (blk_put (blk_put (blk_put (blk_far HB7.out NC _) 0 _ rfl) 1 _ rfl) 2 _ rfl) 3 _ rfl) (by decide) 4 _), (below_set (below_set (below_set (below_set (below_set (below_set B7.out GC) GB) GB) GB) GB) GB)⟩

  · rw [if_neg ct] at h2
    have ct1 : (u != 0) = true := bne_iff_ne.mpr ct
    simp only [Option.some.injEq, Prod.mk.injEq] at h2
    obtain ⟨rfl, rfl, rfl, rfl, rfl, rfl, rfl⟩ := h2
    go_enter Try.func51, Try.ntmps51
    go_wp2_with (first | ((with_reducible refine gate_dst (N := 2) rfl ?_); refine box_event ?hg (N := 2) ?hd (cs := #[.int .u32 x1, .int .u32 x2, .int .u32 x, .slice A l.length c, .int .i64 t]) (t := 72) ?hr ?_; (case hd => rfl); (case hg => rfl); (case hr => first | (go_simp; done) | (go_simp; rfl)); intro gA hgA wA hA hbA; have HA := Aside0.mk hA; have BA := Aside0.mk hbA; have GA : w.heap.size ≤ gA := Nat.le_of_eq hgA.symm; clear hA hbA hgA) | ((with_reducible refine gate_dst (N := 4) rfl ?_); refine box_event ?hg (N := 4) ?hd (cs := #[.int .u32 0, .int .u32 0, .int .u32 0, .slice none 0 0, .int .i64 0]) (t := 72) ?hr ?_; (case hd => rfl); (case hg => rfl); (case hr => first | (go_simp; done) | (go_simp; rfl)); intro gB hgB wB hB hbB; have HB := Aside0.mk hB; have HA1 := Aside0.mk (blk_below HA.out hbB); have BB := Aside0.mk (below_step BA.out hbB); have GB : w.heap.size ≤ gB := Nat.le_trans BA.out.size (Nat.le_of_eq hgB.symm); have NE : gA ≠ gB := Nat.ne_of_lt (Nat.lt_of_lt_of_eq (blk_lt HA.out) hgB.symm); clear hB hbB hgB HA BA; have a0 : wB.cell? ⟨gA, 0, none⟩ = some (.int .u32 x1) := (blk_cell HA1.out 0).trans rfl; have af0 := blk_frozen HA1.out 0; have a1 : wB.cell? ⟨gA, 1, none⟩ = some (.int .u32 x2) := (blk_cell HA1.out 1).trans rfl; have af1 := blk_frozen HA1.out 1; have a2 : wB.cell? ⟨gA, 2, none⟩ = some (.int .u32 x) := (blk_cell HA1.out 2).trans rfl; have af2 := blk_frozen HA1.out 2; have a3 : wB.cell? ⟨gA, 3, none⟩ = some (.slice A l.length c) := (blk_cell HA1.out 3).trans rfl; have af3 := blk_frozen HA1.out 3; have a4 : wB.cell? ⟨gA, 4, none⟩ = some (.int .i64 t) := (blk_cell HA1.out 4).trans rfl; have af4 := blk_frozen HA1.out 4; have b0 : wB.cell? ⟨gB, 0, none⟩ = some (.int .u32 0) := (blk_cell HB.out 0).trans rfl; have bf0 := blk_frozen HB.out 0; have b1 : wB.cell? ⟨gB, 1, none⟩ = some (.int .u32 0) := (blk_cell HB.out 1).trans rfl; have bf1 := blk_frozen HB.out 1; have b2 : wB.cell? ⟨gB, 2, none⟩ = some (.int .u32 0) := (blk_cell HB.out 2).trans rfl; have bf2 := blk_frozen HB.out 2; have b3 : wB.cell? ⟨gB, 3, none⟩ = some (.slice none 0 0) := (blk_cell HB.out 3).trans rfl; have bf3 := blk_frozen HB.out 3; have b4 : wB.cell? ⟨gB, 4, none⟩ = some (.int .i64 0) := (blk_cell HB.out 4).trans rfl; have bf4 := blk_frozen HB.out 4))
    refine (QE.bitloftref21_Check.calls k x1 x2 x A c l t _ _ (Kd.C_below HR.out BB.out) HC.out HT.out).mono ?_
    rintro e w1 ⟨rfl, hb1⟩
    have HA2 := Aside0.mk (blk_below HA1.out hb1)
    have HB2 := Aside0.mk (blk_below HB.out hb1)
    have B2 := Aside0.mk (below_step BB.out hb1)
    clear hb1 HA1 HB BB
    clear a0 af0 a1 af1 a2 af2 a3 af3 a4 af4
    clear b0 bf0 b1 bf1 b2 bf2 b3 bf3 b4 bf4
    have a0 : w1.cell? ⟨gA, 0, none⟩ = some (.int .u32 x1) := (blk_cell HA2.out 0).trans rfl
    have af0 := blk_frozen HA2.out 0
    have a1 : w1.cell? ⟨gA, 1, none⟩ = some (.int .u32 x2) := (blk_cell HA2.out 1).trans rfl
    have af1 := blk_frozen HA2.out 1
    have a2 : w1.cell? ⟨gA, 2, none⟩ = some (.int .u32 x) := (blk_cell HA2.out 2).trans rfl
    have af2 := blk_frozen HA2.out 2
    have a3 : w1.cell? ⟨gA, 3, none⟩ = some (.slice A l.length c) := (blk_cell HA2.out 3).trans rfl
    have af3 := blk_frozen HA2.out 3
    have a4 : w1.cell? ⟨gA, 4, none⟩ = some (.int .i64 t) := (blk_cell HA2.out 4).trans rfl
    have af4 := blk_frozen HA2.out 4
    have b0 : w1.cell? ⟨gB, 0, none⟩ = some (.int .u32 0) := (blk_cell HB2.out 0).trans rfl
    have bf0 := blk_frozen HB2.out 0
    have b1 : w1.cell? ⟨gB, 1, none⟩ = some (.int .u32 0) := (blk_cell HB2.out 1).trans rfl
    have bf1 := blk_frozen HB2.out 1
    have b2 : w1.cell? ⟨gB, 2, none⟩ = some (.int .u32 0) := (blk_cell HB2.out 2).trans rfl
    have bf2 := blk_frozen HB2.out 2
    have b3 : w1.cell? ⟨gB, 3, none⟩ = some (.slice none 0 0) := (blk_cell HB2.out 3).trans rfl
    have bf3 := blk_frozen HB2.out 3
    have b4 : w1.cell? ⟨gB, 4, none⟩ = some (.int .i64 0) := (blk_cell HB2.out 4).trans rfl
    have bf4 := blk_frozen HB2.out 4
    go_wp2_with fail
    refine (QE.bitloftref21_Check.calls k x1 x2 x A c l t u _ (Kd.C_below HR.out B2.out) HC.out HT.out).mono ?_
    rintro e w2 ⟨rfl, hb2⟩
    have HB3 := Aside0.mk (blk_below HB2.out hb2)
    have B3 := Aside0.mk (below_step B2.out hb2)
    clear hb2 HA2 HB2 B2
    clear a0 af0 a1 af1 a2 af2 a3 af3 a4 af4
    clear b0 bf0 b1 bf1 b2 bf2 b3 bf3 b4 bf4
    have b0 : w2.cell? ⟨gB, 0, none⟩ = some (.int .u32 0) := (blk_cell HB3.out 0).trans rfl
    have bf0 := blk_frozen HB3.out 0
    have b1 : w2.cell? ⟨gB, 1, none⟩ = some (.int .u32 0) := (blk_cell HB3.out 1).trans rfl
    have bf1 := blk_frozen HB3.out 1
    have b2 : w2.cell? ⟨gB, 2, none⟩ = some (.int .u32 0) := (blk_cell HB3.out 2).trans rfl
    have bf2 := blk_frozen HB3.out 2
    have b3 : w2.cell? ⟨gB, 3, none⟩ = some (.slice none 0 0) := (blk_cell HB3.out 3).trans rfl
    have bf3 := blk_frozen HB3.out 3
    have b4 : w2.cell? ⟨gB, 4, none⟩ = some (.int .i64 0) := (blk_cell HB3.out 4).trans rfl
    have bf4 := blk_frozen HB3.out 4
    go_wp2_with fail
    refine bodyPost_ret (results_ctt rfl _ _ gB 72 #[.int .u32 0, .int .u32 0, .int .u32 0, .slice none 0 0, .int .i64 0] (0, 0) _ rfl (blk_put (blk_put (blk_put (blk_put (blk_put HB3.out 0 _ rfl) 1 _ rfl) 2 _ rfl) 3 _ rfl) 4 _ rfl) Try.underlying72 rfl (by kernel_rfl)) rfl ?_
    exact ⟨_, rfl, Kd.R_nil _ _ _ _ _, (below_set (below_set (below_set (below_set (below_set B3.out GB) GB) GB) GB) GB)⟩

end Go.Proofs.Ytgapkifgddjijaa.Hand
