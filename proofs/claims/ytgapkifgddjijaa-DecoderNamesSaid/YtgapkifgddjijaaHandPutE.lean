/- The contract of encoder.Put, for every encoder, number and bit. -/
import Derived.Test.YtgapkifgddjijaaHandPut
import Derived.Test.YtgapkifgddjijaaQEx
namespace Go.Proofs.Ytgapkifgddjijaa.Hand
open Go.RowKit Go.Proofs.YtgapkifgddjijaaW.PrintWords Go.Proofs.YtgapkifgddjijaaW.PrintLast Go.Proofs.YtgapkifgddjijaaW.PrintMore
open Go.Proofs.Ytgapkifgddjijaa.QE

def Putf (k : Nat) (x1 x2 : Int) (l : List Int) (p : Int) (b : Bool) : Option (Int × Int × List Int × Int) :=
  (encoder_Check.f x1 x2 l).bind fun t => if t = 0 then ((encoder_prob.f p).bind fun u => if u = true then (if l.length < 140737488355328 then ((putf k x1 x2 p b l).bind fun q => if (q.2.2.length : Int) > 20000 then some (0, 0, ([] : List Int), 4) else some (q.1, q.2.1, q.2.2, 0)) else none) else some (0, 0, ([] : List Int), 2)) else some (0, 0, ([] : List Int), t)

set_option maxHeartbeats 1600000 in
set_option maxRecDepth 100000 in
theorem Put_calls (k : Nat) (x1 x2 : Int) (A : Option Addr) (c : Nat) (l : List Int) (p : Int) (b : Bool) (r1 r2 : Int) (r3 : List Int) (r4 : Int) (w : World)
    (hr : Kd.C (Kd.int .u8) w A l.length l) (hc : l.length ≤ c) (h : Putf k x1 x2 l p b = some (r1, r2, r3, r4)) :
    Calls Try.prog 30 #[.agg #[.int .u32 x1, .int .u32 x2, .slice A l.length c], .int .i64 p, .bool b] w fun e w' => ∃ v2_ : Value, e = .returned (.tuple #[.agg #[.int .u32 r1, .int .u32 r2, v2_], .int .i64 r4]) ∧ Kd.R (Kd.int .u8) 5 w' w.heap.size (fun _ => True) v2_ r3 ∧ Below w.heap.size w w' := by
  have HR := Aside0.mk hr
  have HC := Aside0.mk hc
  clear hr hc
  unfold Putf at h
  obtain ⟨t, ht, h2⟩ := Option.bind_eq_some_iff.mp h
  clear h
  have HT := Aside0.mk ht
  clear ht
  by_cases ct : t = 0
  · rw [if_pos ct] at h2
    subst ct
    obtain ⟨u, hu, h3⟩ := Option.bind_eq_some_iff.mp h2
    clear h2
    have HU := Aside0.mk hu
    clear hu
    cases u with
    | false =>
      simp only [Bool.false_eq_true, ↓reduceIte, Option.some.injEq, Prod.mk.injEq] at h3
      obtain ⟨rfl, rfl, rfl, rfl⟩ := h3
      go_enter Try.func30, Try.ntmps30
      go_wp2_with (first | ((with_reducible refine gate_dst (N := 3) rfl ?_); refine box_event ?hg (N := 3) ?hd (cs := #[.int .u32 x1, .int .u32 x2, .slice A l.length c]) (t := 42) ?hr ?_; (case hd => rfl); (case hg => rfl); (case hr => first | (go_simp; done) | (go_simp; rfl)); intro gA hgA wA hA hbA; have HA := Aside0.mk hA; have BA := Aside0.mk hbA; have GA : w.heap.size ≤ gA := Nat.le_of_eq hgA.symm; clear hA hbA hgA) | ((with_reducible refine gate_dst (N := 6) rfl ?_); refine box_event ?hg (N := 6) ?hd (cs := #[.int .u32 0, .int .u32 0, .slice none 0 0]) (t := 42) ?hr ?_; (case hd => rfl); (case hg => rfl); (case hr => first | (go_simp; done) | (go_simp; rfl)); intro gB hgB wB hB hbB; have HB := Aside0.mk hB; have HA1 := Aside0.mk (blk_below HA.out hbB); have BB := Aside0.mk (below_step BA.out hbB); have GB : w.heap.size ≤ gB := Nat.le_trans BA.out.size (Nat.le_of_eq hgB.symm); have NE : gA ≠ gB := Nat.ne_of_lt (Nat.lt_of_lt_of_eq (blk_lt HA.out) hgB.symm); clear hB hbB hgB HA BA; have a0 : wB.cell? ⟨gA, 0, none⟩ = some (.int .u32 x1) := (blk_cell HA1.out 0).trans rfl; have af0 := blk_frozen HA1.out 0; have a1 : wB.cell? ⟨gA, 1, none⟩ = some (.int .u32 x2) := (blk_cell HA1.out 1).trans rfl; have af1 := blk_frozen HA1.out 1; have a2 : wB.cell? ⟨gA, 2, none⟩ = some (.slice A l.length c) := (blk_cell HA1.out 2).trans rfl; have af2 := blk_frozen HA1.out 2; have b0 : wB.cell? ⟨gB, 0, none⟩ = some (.int .u32 0) := (blk_cell HB.out 0).trans rfl; have bf0 := blk_frozen HB.out 0; have b1 : wB.cell? ⟨gB, 1, none⟩ = some (.int .u32 0) := (blk_cell HB.out 1).trans rfl; have bf1 := blk_frozen HB.out 1; have b2 : wB.cell? ⟨gB, 2, none⟩ = some (.slice none 0 0) := (blk_cell HB.out 2).trans rfl; have bf2 := blk_frozen HB.out 2))
      refine (QE.encoder_Check.calls x1 x2 A c l _ _ (Kd.C_below HR.out BB.out) HC.out HT.out).mono ?_
      rintro e w1 ⟨rfl, hb1⟩
      have HA2 := Aside0.mk (blk_below HA1.out hb1)
      have HB2 := Aside0.mk (blk_below HB.out hb1)
      have B2 := Aside0.mk (below_step BB.out hb1)
      clear hb1 HA1 HB BB
      clear a0 af0 a1 af1 a2 af2
      clear b0 bf0 b1 bf1 b2 bf2
      have a0 : w1.cell? ⟨gA, 0, none⟩ = some (.int .u32 x1) := (blk_cell HA2.out 0).trans rfl
      have af0 := blk_frozen HA2.out 0
      have a1 : w1.cell? ⟨gA, 1, none⟩ = some (.int .u32 x2) := (blk_cell HA2.out 1).trans rfl
      have af1 := blk_frozen HA2.out 1
      have a2 : w1.cell? ⟨gA, 2, none⟩ = some (.slice A l.length c) := (blk_cell HA2.out 2).trans rfl
      have af2 := blk_frozen HA2.out 2
      have b0 : w1.cell? ⟨gB, 0, none⟩ = some (.int .u32 0) := (blk_cell HB2.out 0).trans rfl
      have bf0 := blk_frozen HB2.out 0
      have b1 : w1.cell? ⟨gB, 1, none⟩ = some (.int .u32 0) := (blk_cell HB2.out 1).trans rfl
      have bf1 := blk_frozen HB2.out 1
      have b2 : w1.cell? ⟨gB, 2, none⟩ = some (.slice none 0 0) := (blk_cell HB2.out 2).trans rfl
      have bf2 := blk_frozen HB2.out 2
      go_wp2_with fail
      refine (QE.encoder_prob.calls p false _ HU.out).mono ?_
      rintro e w' ⟨rfl, ⟨nd, rfl⟩⟩
      go_wp2_with fail
      refine bodyPost_ret (results_ct rfl _ _ gB 42 #[.int .u32 0, .int .u32 0, .slice none 0 0] (0, 0) _ rfl (blk_put (blk_put (blk_put (blk_drewN HB2.out _) 0 _ rfl) 1 _ rfl) 2 _ rfl) Try.underlying42 rfl (by kernel_rfl)) rfl ?_
      exact ⟨_, rfl, Kd.R_nil _ _ _ _ _, (below_set (below_set (below_set (pw_below_drewN B2.out _) GB) GB) GB)⟩
    | true =>
      rw [if_pos rfl] at h3
      by_cases hl : l.length < 140737488355328
      case neg => rw [if_neg hl] at h3; cases h3
      case pos =>
      rw [if_pos hl] at h3
      obtain ⟨⟨t1, t2, t3⟩, hq, h4⟩ := Option.bind_eq_some_iff.mp h3
      clear h3
      have HQ := Aside0.mk hq
      have HL := Aside0.mk hl
      clear hq
      by_cases c4 : (t3.length : Int) > 20000
      · simp only [if_pos c4, Option.some.injEq, Prod.mk.injEq] at h4
        obtain ⟨rfl, rfl, rfl, rfl⟩ := h4
        have c4b : decide (20000 < t3.length) = true := decide_eq_true (by omega)
        go_enter Try.func30, Try.ntmps30
        go_wp2_with (first | ((with_reducible refine gate_dst (N := 3) rfl ?_); refine box_event ?hg (N := 3) ?hd (cs := #[.int .u32 x1, .int .u32 x2, .slice A l.length c]) (t := 42) ?hr ?_; (case hd => rfl); (case hg => rfl); (case hr => first | (go_simp; done) | (go_simp; rfl)); intro gA hgA wA hA hbA; have HA := Aside0.mk hA; have BA := Aside0.mk hbA; have GA : w.heap.size ≤ gA := Nat.le_of_eq hgA.symm; clear hA hbA hgA) | ((with_reducible refine gate_dst (N := 6) rfl ?_); refine box_event ?hg (N := 6) ?hd (cs := #[.int .u32 0, .int .u32 0, .slice none 0 0]) (t := 42) ?hr ?_; (case hd => rfl); (case hg => rfl); (case hr => first | (go_simp; done) | (go_simp; rfl)); intro gB hgB wB hB hbB; have HB := Aside0.mk hB; have HA1 := Aside0.mk (blk_below HA.out hbB); have BB := Aside0.mk (below_step BA.out hbB); have GB : w.heap.size ≤ gB := Nat.le_trans BA.out.size (Nat.le_of_eq hgB.symm); have NE : gA ≠ gB := Nat.ne_of_lt (Nat.lt_of_lt_of_eq (blk_lt HA.out) hgB.symm); clear hB hbB hgB HA BA; have a0 : wB.cell? ⟨gA, 0, none⟩ = some (.int .u32 x1) := (blk_cell HA1.out 0).trans rfl; have af0 := blk_frozen HA1.out 0; have a1 : wB.cell? ⟨gA, 1, none⟩ = some (.int .u32 x2) := (blk_cell HA1.out 1).trans rfl; have af1 := blk_frozen HA1.out 1; have a2 : wB.cell? ⟨gA, 2, none⟩ = some (.slice A l.length c) := (blk_cell HA1.out 2).trans rfl; have af2 := blk_frozen HA1.out 2; have b0 : wB.cell? ⟨gB, 0, none⟩ = some (.int .u32 0) := (blk_cell HB.out 0).trans rfl; have bf0 := blk_frozen HB.out 0; have b1 : wB.cell? ⟨gB, 1, none⟩ = some (.int .u32 0) := (blk_cell HB.out 1).trans rfl; have bf1 := blk_frozen HB.out 1; have b2 : wB.cell? ⟨gB, 2, none⟩ = some (.slice none 0 0) := (blk_cell HB.out 2).trans rfl; have bf2 := blk_frozen HB.out 2))
        refine (QE.encoder_Check.calls x1 x2 A c l _ _ (Kd.C_below HR.out BB.out) HC.out HT.out).mono ?_
        rintro e w1 ⟨rfl, hb1⟩
        have HA2 := Aside0.mk (blk_below HA1.out hb1)
        have HB2 := Aside0.mk (blk_below HB.out hb1)
        have B2 := Aside0.mk (below_step BB.out hb1)
        clear hb1 HA1 HB BB
        clear a0 af0 a1 af1 a2 af2
        clear b0 bf0 b1 bf1 b2 bf2
        have a0 : w1.cell? ⟨gA, 0, none⟩ = some (.int .u32 x1) := (blk_cell HA2.out 0).trans rfl
        have af0 := blk_frozen HA2.out 0
        have a1 : w1.cell? ⟨gA, 1, none⟩ = some (.int .u32 x2) := (blk_cell HA2.out 1).trans rfl
        have af1 := blk_frozen HA2.out 1
        have a2 : w1.cell? ⟨gA, 2, none⟩ = some (.slice A l.length c) := (blk_cell HA2.out 2).trans rfl
        have af2 := blk_frozen HA2.out 2
        have b0 : w1.cell? ⟨gB, 0, none⟩ = some (.int .u32 0) := (blk_cell HB2.out 0).trans rfl
        have bf0 := blk_frozen HB2.out 0
        have b1 : w1.cell? ⟨gB, 1, none⟩ = some (.int .u32 0) := (blk_cell HB2.out 1).trans rfl
        have bf1 := blk_frozen HB2.out 1
        have b2 : w1.cell? ⟨gB, 2, none⟩ = some (.slice none 0 0) := (blk_cell HB2.out 2).trans rfl
        have bf2 := blk_frozen HB2.out 2
        go_wp2_with fail
        refine (QE.encoder_prob.calls p true _ HU.out).mono ?_
        rintro e w' ⟨rfl, ⟨nd, rfl⟩⟩
        go_wp2_with fail
        refine (Clone_calls A c l _ (Kd.C_drewN (Kd.C_below HR.out B2.out) _) hl).mono ?_
        rintro e w2 ⟨v, rfl, hR, hb2⟩
        obtain ⟨A1, c1, rfl⟩ := Kd.R_slice hR
        have HA3 := Aside0.mk (blk_below (blk_drewN HA2.out _) hb2)
        have HB3 := Aside0.mk (blk_below (blk_drewN HB2.out _) hb2)
        have B3 := Aside0.mk (below_step (pw_below_drewN B2.out _) hb2)
        have R3 := Aside0.mk (Kd.R_lower hR B2.out.size)
        clear hb2 hR HA2 HB2 B2
        clear a0 af0 a1 af1 a2 af2
        clear b0 bf0 b1 bf1 b2 bf2
        have a0 : w2.cell? ⟨gA, 0, none⟩ = some (.int .u32 x1) := (blk_cell HA3.out 0).trans rfl
        have af0 := blk_frozen HA3.out 0
        have a1 : w2.cell? ⟨gA, 1, none⟩ = some (.int .u32 x2) := (blk_cell HA3.out 1).trans rfl
        have af1 := blk_frozen HA3.out 1
        have a2 : w2.cell? ⟨gA, 2, none⟩ = some (.slice A l.length c) := (blk_cell HA3.out 2).trans rfl
        have af2 := blk_frozen HA3.out 2
        have b0 : w2.cell? ⟨gB, 0, none⟩ = some (.int .u32 0) := (blk_cell HB3.out 0).trans rfl
        have bf0 := blk_frozen HB3.out 0
        have b1 : w2.cell? ⟨gB, 1, none⟩ = some (.int .u32 0) := (blk_cell HB3.out 1).trans rfl
        have bf1 := blk_frozen HB3.out 1
        have b2 : w2.cell? ⟨gB, 2, none⟩ = some (.slice none 0 0) := (blk_cell HB3.out 2).trans rfl
        have bf2 := blk_frozen HB3.out 2
        go_wp2_with fail
        refine (put_calls k w.heap.size gA x1 x2 p b l (.slice A1 l.length c1) t1 t2 t3 _ GA (by simpa using B3.out.size) (blk_put HA3.out 2 _ rfl) (Kd.R_set R3.out HA3.out (by decide) 2 _) HQ.out).mono ?_
        rintro e w3 ⟨v', rfl, hA4, hR4, hk4, hb4⟩
        obtain ⟨A2, c2, rfl⟩ := Kd.R_slice hR4
        have HA4 := Aside0.mk hA4
        have HB4 := Aside0.mk (blk_kept (blk_far HB3.out (p := ⟨gA, 2, none⟩) (Ne.symm NE) _) hk4 (by rintro (h | h); exact NE h.symm; exact Kd.R_ne R3.out HB3.out (by decide) h))
        have R4 := Aside0.mk hR4
        have B4 := Aside0.mk (Below.trans (below_set B3.out GA) hb4)
        clear hA4 hR4 hk4 hb4 HA3 HB3 B3 R3
        clear a0 af0 a1 af1 a2 af2
        clear b0 bf0 b1 bf1 b2 bf2
        have a0 : w3.cell? ⟨gA, 0, none⟩ = some (.int .u32 t1) := (blk_cell HA4.out 0).trans rfl
        have af0 := blk_frozen HA4.out 0
        have a1 : w3.cell? ⟨gA, 1, none⟩ = some (.int .u32 t2) := (blk_cell HA4.out 1).trans rfl
        have af1 := blk_frozen HA4.out 1
        have a2 : w3.cell? ⟨gA, 2, none⟩ = some (.slice A2 t3.length c2) := (blk_cell HA4.out 2).trans rfl
        have af2 := blk_frozen HA4.out 2
        have b0 : w3.cell? ⟨gB, 0, none⟩ = some (.int .u32 0) := (blk_cell HB4.out 0).trans rfl
        have bf0 := blk_frozen HB4.out 0
        have b1 : w3.cell? ⟨gB, 1, none⟩ = some (.int .u32 0) := (blk_cell HB4.out 1).trans rfl
        have bf1 := blk_frozen HB4.out 1
        have b2 : w3.cell? ⟨gB, 2, none⟩ = some (.slice none 0 0) := (blk_cell HB4.out 2).trans rfl
        have bf2 := blk_frozen HB4.out 2
        go_wp2_with fail
        refine bodyPost_ret (results_ct rfl _ _ gB 42 #[.int .u32 0, .int .u32 0, .slice none 0 0] (0, 0) _ rfl (blk_put (blk_put (blk_put HB4.out 0 _ rfl) 1 _ rfl) 2 _ rfl) Try.underlying42 rfl (by kernel_rfl)) rfl ?_
        exact ⟨_, rfl, Kd.R_nil _ _ _ _ _, (below_set (below_set (below_set B4.out GB) GB) GB)⟩
      · simp only [if_neg c4, Option.some.injEq, Prod.mk.injEq] at h4
        obtain ⟨rfl, rfl, rfl, rfl⟩ := h4
        have c4b : decide (20000 < t3.length) = false := decide_eq_false (by omega)
        go_enter Try.func30, Try.ntmps30
        go_wp2_with (first | ((with_reducible refine gate_dst (N := 3) rfl ?_); refine box_event ?hg (N := 3) ?hd (cs := #[.int .u32 x1, .int .u32 x2, .slice A l.length c]) (t := 42) ?hr ?_; (case hd => rfl); (case hg => rfl); (case hr => first | (go_simp; done) | (go_simp; rfl)); intro gA hgA wA hA hbA; have HA := Aside0.mk hA; have BA := Aside0.mk hbA; have GA : w.heap.size ≤ gA := Nat.le_of_eq hgA.symm; clear hA hbA hgA) | ((with_reducible refine gate_dst (N := 6) rfl ?_); refine box_event ?hg (N := 6) ?hd (cs := #[.int .u32 0, .int .u32 0, .slice none 0 0]) (t := 42) ?hr ?_; (case hd => rfl); (case hg => rfl); (case hr => first | (go_simp; done) | (go_simp; rfl)); intro gB hgB wB hB hbB; have HB := Aside0.mk hB; have HA1 := Aside0.mk (blk_below HA.out hbB); have BB := Aside0.mk (below_step BA.out hbB); have GB : w.heap.size ≤ gB := Nat.le_trans BA.out.size (Nat.le_of_eq hgB.symm); have NE : gA ≠ gB := Nat.ne_of_lt (Nat.lt_of_lt_of_eq (blk_lt HA.out) hgB.symm); clear hB hbB hgB HA BA; have a0 : wB.cell? ⟨gA, 0, none⟩ = some (.int .u32 x1) := (blk_cell HA1.out 0).trans rfl; have af0 := blk_frozen HA1.out 0; have a1 : wB.cell? ⟨gA, 1, none⟩ = some (.int .u32 x2) := (blk_cell HA1.out 1).trans rfl; have af1 := blk_frozen HA1.out 1; have a2 : wB.cell? ⟨gA, 2, none⟩ = some (.slice A l.length c) := (blk_cell HA1.out 2).trans rfl; have af2 := blk_frozen HA1.out 2; have b0 : wB.cell? ⟨gB, 0, none⟩ = some (.int .u32 0) := (blk_cell HB.out 0).trans rfl; have bf0 := blk_frozen HB.out 0; have b1 : wB.cell? ⟨gB, 1, none⟩ = some (.int .u32 0) := (blk_cell HB.out 1).trans rfl; have bf1 := blk_frozen HB.out 1; have b2 : wB.cell? ⟨gB, 2, none⟩ = some (.slice none 0 0) := (blk_cell HB.out 2).trans rfl; have bf2 := blk_frozen HB.out 2))
        refine (QE.encoder_Check.calls x1 x2 A c l _ _ (Kd.C_below HR.out BB.out) HC.out HT.out).mono ?_
        rintro e w1 ⟨rfl, hb1⟩
        have HA2 := Aside0.mk (blk_below HA1.out hb1)
        have HB2 := Aside0.mk (blk_below HB.out hb1)
        have B2 := Aside0.mk (below_step BB.out hb1)
        clear hb1 HA1 HB BB
        clear a0 af0 a1 af1 a2 af2
        clear b0 bf0 b1 bf1 b2 bf2
        have a0 : w1.cell? ⟨gA, 0, none⟩ = some (.int .u32 x1) := (blk_cell HA2.out 0).trans rfl
        have af0 := blk_frozen HA2.out 0
        have a1 : w1.cell? ⟨gA, 1, none⟩ = some (.int .u32 x2) := (blk_cell HA2.out 1).trans rfl
        have af1 := blk_frozen HA2.out 1
        have a2 : w1.cell? ⟨gA, 2, none⟩ = some (.slice A l.length c) := (blk_cell HA2.out 2).trans rfl
        have af2 := blk_frozen HA2.out 2
        have b0 : w1.cell? ⟨gB, 0, none⟩ = some (.int .u32 0) := (blk_cell HB2.out 0).trans rfl
        have bf0 := blk_frozen HB2.out 0
        have b1 : w1.cell? ⟨gB, 1, none⟩ = some (.int .u32 0) := (blk_cell HB2.out 1).trans rfl
        have bf1 := blk_frozen HB2.out 1
        have b2 : w1.cell? ⟨gB, 2, none⟩ = some (.slice none 0 0) := (blk_cell HB2.out 2).trans rfl
        have bf2 := blk_frozen HB2.out 2
        go_wp2_with fail
        refine (QE.encoder_prob.calls p true _ HU.out).mono ?_
        rintro e w' ⟨rfl, ⟨nd, rfl⟩⟩
        go_wp2_with fail
        refine (Clone_calls A c l _ (Kd.C_drewN (Kd.C_below HR.out B2.out) _) hl).mono ?_
        rintro e w2 ⟨v, rfl, hR, hb2⟩
        obtain ⟨A1, c1, rfl⟩ := Kd.R_slice hR
        have HA3 := Aside0.mk (blk_below (blk_drewN HA2.out _) hb2)
        have HB3 := Aside0.mk (blk_below (blk_drewN HB2.out _) hb2)
        have B3 := Aside0.mk (below_step (pw_below_drewN B2.out _) hb2)
        have R3 := Aside0.mk (Kd.R_lower hR B2.out.size)
        clear hb2 hR HA2 HB2 B2
        clear a0 af0 a1 af1 a2 af2
        clear b0 bf0 b1 bf1 b2 bf2
        have a0 : w2.cell? ⟨gA, 0, none⟩ = some (.int .u32 x1) := (blk_cell HA3.out 0).trans rfl
        have af0 := blk_frozen HA3.out 0
        have a1 : w2.cell? ⟨gA, 1, none⟩ = some (.int .u32 x2) := (blk_cell HA3.out 1).trans rfl
        have af1 := blk_frozen HA3.out 1
        have a2 : w2.cell? ⟨gA, 2, none⟩ = some (.slice A l.length c) := (blk_cell HA3.out 2).trans rfl
        have af2 := blk_frozen HA3.out 2
        have b0 : w2.cell? ⟨gB, 0, none⟩ = some (.int .u32 0) := (blk_cell HB3.out 0).trans rfl
        have bf0 := blk_frozen HB3.out 0
        have b1 : w2.cell? ⟨gB, 1, none⟩ = some (.int .u32 0) := (blk_cell HB3.out 1).trans rfl
        have bf1 := blk_frozen HB3.out 1
        have b2 : w2.cell? ⟨gB, 2, none⟩ = some (.slice none 0 0) := (blk_cell HB3.out 2).trans rfl
        have bf2 := blk_frozen HB3.out 2
        go_wp2_with fail
        refine (put_calls k w.heap.size gA x1 x2 p b l (.slice A1 l.length c1) t1 t2 t3 _ GA (by simpa using B3.out.size) (blk_put HA3.out 2 _ rfl) (Kd.R_set R3.out HA3.out (by decide) 2 _) HQ.out).mono ?_
        rintro e w3 ⟨v', rfl, hA4, hR4, hk4, hb4⟩
        obtain ⟨A2, c2, rfl⟩ := Kd.R_slice hR4
        have HA4 := Aside0.mk hA4
        have HB4 := Aside0.mk (blk_kept (blk_far HB3.out (p := ⟨gA, 2, none⟩) (Ne.symm NE) _) hk4 (by rintro (h | h); exact NE h.symm; exact Kd.R_ne R3.out HB3.out (by decide) h))
        have R4 := Aside0.mk hR4
        have B4 := Aside0.mk (Below.trans (below_set B3.out GA) hb4)
        clear hA4 hR4 hk4 hb4 HA3 HB3 B3 R3
        clear a0 af0 a1 af1 a2 af2
        clear b0 bf0 b1 bf1 b2 bf2
        have a0 : w3.cell? ⟨gA, 0, none⟩ = some (.int .u32 t1) := (blk_cell HA4.out 0).trans rfl
        have af0 := blk_frozen HA4.out 0
        have a1 : w3.cell? ⟨gA, 1, none⟩ = some (.int .u32 t2) := (blk_cell HA4.out 1).trans rfl
        have af1 := blk_frozen HA4.out 1
        have a2 : w3.cell? ⟨gA, 2, none⟩ = some (.slice A2 t3.length c2) := (blk_cell HA4.out 2).trans rfl
        have af2 := blk_frozen HA4.out 2
        have b0 : w3.cell? ⟨gB, 0, none⟩ = some (.int .u32 0) := (blk_cell HB4.out 0).trans rfl
        have bf0 := blk_frozen HB4.out 0
        have b1 : w3.cell? ⟨gB, 1, none⟩ = some (.int .u32 0) := (blk_cell HB4.out 1).trans rfl
        have bf1 := blk_frozen HB4.out 1
        have b2 : w3.cell? ⟨gB, 2, none⟩ = some (.slice none 0 0) := (blk_cell HB4.out 2).trans rfl
        have bf2 := blk_frozen HB4.out 2
        go_wp2_with fail
        refine bodyPost_ret (results_ct rfl _ _ gB 42 #[.int .u32 t1, .int .u32 t2, .slice A2 t3.length c2] (0, 0) _ rfl (blk_put (blk_put (blk_put HB4.out 0 _ rfl) 1 _ rfl) 2 _ rfl) Try.underlying42 rfl (by kernel_rfl)) rfl ?_
        exact ⟨_, rfl, Kd.R_set (Kd.R_set (Kd.R_set R4.out HB4.out (by decide) 0 _) (blk_put HB4.out 0 _ rfl) (by decide) 1 _) (blk_put (blk_put HB4.out 0 _ rfl) 1 _ rfl) (by decide) 2 _, (below_set (below_set (below_set B4.out GB) GB) GB)⟩
  · rw [if_neg ct] at h2
    have ct1 : (t != 0) = true := bne_iff_ne.mpr ct
    simp only [Option.some.injEq, Prod.mk.injEq] at h2
    obtain ⟨rfl, rfl, rfl, rfl⟩ := h2
    go_enter Try.func30, Try.ntmps30
    go_wp2_with (first | ((with_reducible refine gate_dst (N := 3) rfl ?_); refine box_event ?hg (N := 3) ?hd (cs := #[.int .u32 x1, .int .u32 x2, .slice A l.length c]) (t := 42) ?hr ?_; (case hd => rfl); (case hg => rfl); (case hr => first | (go_simp; done) | (go_simp; rfl)); intro gA hgA wA hA hbA; have HA := Aside0.mk hA; have BA := Aside0.mk hbA; have GA : w.heap.size ≤ gA := Nat.le_of_eq hgA.symm; clear hA hbA hgA) | ((with_reducible refine gate_dst (N := 6) rfl ?_); refine box_event ?hg (N := 6) ?hd (cs := #[.int .u32 0, .int .u32 0, .slice none 0 0]) (t := 42) ?hr ?_; (case hd => rfl); (case hg => rfl); (case hr => first | (go_simp; done) | (go_simp; rfl)); intro gB hgB wB hB hbB; have HB := Aside0.mk hB; have HA1 := Aside0.mk (blk_below HA.out hbB); have BB := Aside0.mk (below_step BA.out hbB); have GB : w.heap.size ≤ gB := Nat.le_trans BA.out.size (Nat.le_of_eq hgB.symm); have NE : gA ≠ gB := Nat.ne_of_lt (Nat.lt_of_lt_of_eq (blk_lt HA.out) hgB.symm); clear hB hbB hgB HA BA; have a0 : wB.cell? ⟨gA, 0, none⟩ = some (.int .u32 x1) := (blk_cell HA1.out 0).trans rfl; have af0 := blk_frozen HA1.out 0; have a1 : wB.cell? ⟨gA, 1, none⟩ = some (.int .u32 x2) := (blk_cell HA1.out 1).trans rfl; have af1 := blk_frozen HA1.out 1; have a2 : wB.cell? ⟨gA, 2, none⟩ = some (.slice A l.length c) := (blk_cell HA1.out 2).trans rfl; have af2 := blk_frozen HA1.out 2; have b0 : wB.cell? ⟨gB, 0, none⟩ = some (.int .u32 0) := (blk_cell HB.out 0).trans rfl; have bf0 := blk_frozen HB.out 0; have b1 : wB.cell? ⟨gB, 1, none⟩ = some (.int .u32 0) := (blk_cell HB.out 1).trans rfl; have bf1 := blk_frozen HB.out 1; have b2 : wB.cell? ⟨gB, 2, none⟩ = some (.slice none 0 0) := (blk_cell HB.out 2).trans rfl; have bf2 := blk_frozen HB.out 2))
    refine (QE.encoder_Check.calls x1 x2 A c l _ _ (Kd.C_below HR.out BB.out) HC.out HT.out).mono ?_
    rintro e w1 ⟨rfl, hb1⟩
    have HA2 := Aside0.mk (blk_below HA1.out hb1)
    have HB2 := Aside0.mk (blk_below HB.out hb1)
    have B2 := Aside0.mk (below_step BB.out hb1)
    clear hb1 HA1 HB BB
    clear a0 af0 a1 af1 a2 af2
    clear b0 bf0 b1 bf1 b2 bf2
    have a0 : w1.cell? ⟨gA, 0, none⟩ = some (.int .u32 x1) := (blk_cell HA2.out 0).trans rfl
    have af0 := blk_frozen HA2.out 0
    have a1 : w1.cell? ⟨gA, 1, none⟩ = some (.int .u32 x2) := (blk_cell HA2.out 1).trans rfl
    have af1 := blk_frozen HA2.out 1
    have a2 : w1.cell? ⟨gA, 2, none⟩ = some (.slice A l.length c) := (blk_cell HA2.out 2).trans rfl
    have af2 := blk_frozen HA2.out 2
    have b0 : w1.cell? ⟨gB, 0, none⟩ = some (.int .u32 0) := (blk_cell HB2.out 0).trans rfl
    have bf0 := blk_frozen HB2.out 0
    have b1 : w1.cell? ⟨gB, 1, none⟩ = some (.int .u32 0) := (blk_cell HB2.out 1).trans rfl
    have bf1 := blk_frozen HB2.out 1
    have b2 : w1.cell? ⟨gB, 2, none⟩ = some (.slice none 0 0) := (blk_cell HB2.out 2).trans rfl
    have bf2 := blk_frozen HB2.out 2
    go_wp2_with fail
    refine bodyPost_ret (results_ct rfl _ _ gB 42 #[.int .u32 0, .int .u32 0, .slice none 0 0] (0, 0) _ rfl (blk_put (blk_put (blk_put HB2.out 0 _ rfl) 1 _ rfl) 2 _ rfl) Try.underlying42 rfl (by kernel_rfl)) rfl ?_
    exact ⟨_, rfl, Kd.R_nil _ _ _ _ _, (below_set (below_set (below_set B2.out GB) GB) GB)⟩
end Go.Proofs.Ytgapkifgddjijaa.Hand
