/- The contract of the reference's Did. -/
import Derived.Test.YtgapkifgddjijaaHandRunD
namespace Go.Proofs.Ytgapkifgddjijaa.Hand
open Go.RowKit Go.Proofs.YtgapkifgddjijaaW.PrintWords Go.Proofs.YtgapkifgddjijaaW.PrintLast Go.Proofs.YtgapkifgddjijaaW.PrintMore
open Go.Proofs.Ytgapkifgddjijaa.QE
theorem Byte_same (A : Option Addr) (c : Nat) (l : List Int) (i b : Int) (w : World) (hr : Kd.C (Kd.int .u8) w A l.length l) (h : bitloftref21_Byte.f l i = some b) :
    Calls Try.prog 60 #[.slice A l.length c, .int .i64 i] w fun e w' => e = .returned (.int .u8 b) ∧ w' = w := by
  have HR := Aside0.mk hr
  have hm : l.length ≤ 9223372036854775807 := hr.2.1
  clear hr
  unfold bitloftref21_Byte.f at h
  by_cases c1 : i ≥ (l.length : Int)
  · rw [if_pos c1] at h
    obtain rfl := Option.some.inj h
    have c2 : decide ((l.length : Int) ≤ i) = true := decide_eq_true c1
    go_enter Try.func60, Try.ntmps60
    go_wp2_with fail
    go_ret
    exact ⟨rfl, rfl⟩
  · rw [if_neg c1] at h
    have c2 : decide ((l.length : Int) ≤ i) = false := decide_eq_false c1
    by_cases c0 : 0 ≤ i
    · rw [if_pos c0, if_pos (by omega)] at h
      obtain rfl := Option.some.inj h
      obtain ⟨n, rfl⟩ := Int.eq_ofNat_of_zero_le c0
      have hn : n < l.length := by omega
      obtain ⟨ad, rfl, hc⟩ := Cint_at' HR.out n hn
      have hv : rd l (n : Int) = l[n] := by unfold rd; rw [Int.toNat_natCast, List.getD_eq_getElem?_getD, List.getElem?_eq_getElem hn]; rfl
      have HV := Aside0.mk hv
      clear hv h
      go_enter Try.func60, Try.ntmps60
      go_wp2_with fail
      go_ret
      exact ⟨by rw [HV.out]; rfl, rfl⟩
    · rw [if_neg c0] at h
      cases h
def didl : Nat → Int → Int → Int → List Int → Int → Option (Int × Int × Int × Int)
  | 0, _, _, _, _, _ => none
  | k + 1, x1, x2, x, l, t => if Int.tdiv x1 16777216 % 4294967296 = Int.tdiv x2 16777216 % 4294967296 then ((bitloftref21_Byte.f l t).bind fun b => didl k (x1 * 256 % 4294967296) (x2 * 256 % 4294967296 + 255) ((x * 256 + b) % 4294967296) l (wrap64 (t + 1))) else some (x1, x2, x, t)
def Didf (k : Nat) (x1 x2 x : Int) (l : List Int) (t p : Int) : Option (Int × Int × Int × Int × Bool) :=
  (bitloftref20_Middle.f x1 x2 p).bind fun m => if x ≤ m then ((didl k x1 m x l t).bind fun r => some (r.1, r.2.1, r.2.2.1, r.2.2.2, true)) else ((didl k ((m + 1) % 4294967296) x2 x l t).bind fun r => some (r.1, r.2.1, r.2.2.1, r.2.2.2, false))
set_option maxHeartbeats 1600000 in
set_option maxRecDepth 100000 in
theorem Did_calls (k : Nat) (x1 x2 x : Int) (A : Option Addr) (c : Nat) (l : List Int) (t p : Int) (r1 r2 rx rt : Int) (rb : Bool) (w : World)
    (hr : Kd.C (Kd.int .u8) w A l.length l) (hc : l.length ≤ c) (h : Didf k x1 x2 x l t p = some (r1, r2, rx, rt, rb)) :
    Calls Try.prog 83 #[.agg #[.int .u32 x1, .int .u32 x2, .int .u32 x, .slice A l.length c, .int .i64 t], .int .i64 p] w fun e w' => e = .returned (.tuple #[.agg #[.int .u32 r1, .int .u32 r2, .int .u32 rx, .slice A l.length c, .int .i64 rt], .bool rb]) ∧ Below w.heap.size w w' := by
  have HR := Aside0.mk hr
  have HC := Aside0.mk hc
  clear hr hc
  unfold Didf at h
  obtain ⟨m, hm, h2⟩ := Option.bind_eq_some_iff.mp h
  have HM := Aside0.mk hm
  clear h hm
  by_cases hq : x ≤ m
  · rw [if_pos hq] at h2
    obtain ⟨⟨q1, q2, q3, q4⟩, hg, h3⟩ := Option.bind_eq_some_iff.mp h2
    simp only [Option.some.injEq, Prod.mk.injEq] at h3
    obtain ⟨rfl, rfl, rfl, rfl, rfl⟩ := h3
    have HG := Aside0.mk hg
    have hq1 : decide (x ≤ m) = true := decide_eq_true hq
    clear hg h2 hq
    go_enter Try.func83, Try.ntmps83
    go_wp2_with (first | ((with_reducible refine gate_dst (N := 2) rfl ?_); refine box_event ?hg (N := 2) ?hd (cs := #[.int .u32 x1, .int .u32 x2, .int .u32 x, .slice A l.length c, .int .i64 t]) (t := 72) ?hr ?_; (case hd => rfl); (case hg => rfl); (case hr => first | (go_simp; done) | (go_simp; rfl)); intro gA hgA wA hA hbA; have HA := Aside0.mk hA; have BA := Aside0.mk hbA; have GA : w.heap.size ≤ gA := Nat.le_of_eq hgA.symm; clear hA hbA hgA) | ((with_reducible refine gate_dst (N := 4) rfl ?_); refine box_event ?hg (N := 4) ?hd (cs := #[.int .u32 0, .int .u32 0, .int .u32 0, .slice none 0 0, .int .i64 0]) (t := 72) ?hr ?_; (case hd => rfl); (case hg => rfl); (case hr => first | (go_simp; done) | (go_simp; rfl)); intro gB hgB wB hB hbB; have HB := Aside0.mk hB; have HA1 := Aside0.mk (blk_below HA.out hbB); have BB := Aside0.mk (below_step BA.out hbB); have GB : w.heap.size ≤ gB := Nat.le_trans BA.out.size (Nat.le_of_eq hgB.symm); have NE : gA ≠ gB := Nat.ne_of_lt (Nat.lt_of_lt_of_eq (blk_lt HA.out) hgB.symm); clear hB hbB hgB HA BA; have a0 : wB.cell? ⟨gA, 0, none⟩ = some (.int .u32 x1) := (blk_cell HA1.out 0).trans rfl; have af0 := blk_frozen HA1.out 0; have a1 : wB.cell? ⟨gA, 1, none⟩ = some (.int .u32 x2) := (blk_cell HA1.out 1).trans rfl; have af1 := blk_frozen HA1.out 1; have a2 : wB.cell? ⟨gA, 2, none⟩ = some (.int .u32 x) := (blk_cell HA1.out 2).trans rfl; have af2 := blk_frozen HA1.out 2; have a3 : wB.cell? ⟨gA, 3, none⟩ = some (.slice A l.length c) := (blk_cell HA1.out 3).trans rfl; have af3 := blk_frozen HA1.out 3; have a4 : wB.cell? ⟨gA, 4, none⟩ = some (.int .i64 t) := (blk_cell HA1.out 4).trans rfl; have af4 := blk_frozen HA1.out 4; have b0 : wB.cell? ⟨gB, 0, none⟩ = some (.int .u32 0) := (blk_cell HB.out 0).trans rfl; have bf0 := blk_frozen HB.out 0; have b1 : wB.cell? ⟨gB, 1, none⟩ = some (.int .u32 0) := (blk_cell HB.out 1).trans rfl; have bf1 := blk_frozen HB.out 1; have b2 : wB.cell? ⟨gB, 2, none⟩ = some (.int .u32 0) := (blk_cell HB.out 2).trans rfl; have bf2 := blk_frozen HB.out 2; have b3 : wB.cell? ⟨gB, 3, none⟩ = some (.slice none 0 0) := (blk_cell HB.out 3).trans rfl; have bf3 := blk_frozen HB.out 3; have b4 : wB.cell? ⟨gB, 4, none⟩ = some (.int .i64 0) := (blk_cell HB.out 4).trans rfl; have bf4 := blk_frozen HB.out 4))
    refine (QE.bitloftref20_Middle.calls x1 x2 p m _ HM.out).mono ?_
    rintro e w' ⟨rfl, ⟨nd, rfl⟩⟩
    have HA2 := Aside0.mk (blk_drewN HA1.out nd)
    have HB2 := Aside0.mk (blk_drewN HB.out nd)
    have B2 := Aside0.mk (pw_below_drewN BB.out nd)
    generalize wB.drewN nd = w1 at HA2 HB2 B2 ⊢
    clear HA1 HB BB
    clear a0 af0 a1 af1 a2 af2 a3 af3 a4 af4
    clear b0 bf0 b1 bf1 b2 bf2 b3 bf3 b4 bf4
    have a0 : w1.cell? ⟨gA, 0, none⟩ = some (.int .u32 x1) := (blk_cell HA2.out 0).trans rfl
    have af0 := blk_frozen HA2.out 0
    have a1 : w1.cell? ⟨gA, 1, none⟩ = some (.int .u32 x2) := (blk_cell HA2.out 1).trans rfl
    have af1 := blk_frozen HA2.out 1
    have a2 : w1.cell? ⟨gA, 2, none⟩ = some (.int .u32 x) := (blk_cell HA2.out 2).trans rfl
    have af2 := blk_frozen HA2.out 2
    have a3 : w1.cell? ⟨gA, 3, none⟩ = some (.slice A l.length c) := (blk_cell HA2.out 3).trans rfl
    have af3 := blk_frozen HA2.out 3
    have a4 : w1.cell? ⟨gA, 4, none⟩ = some (.int .i64 t) := (blk_cell HA2.out 4).trans rfl
    have af4 := blk_frozen HA2.out 4
    go_wp2_with fail
    go_loopg [] k (fun kq w' => ∃ (y1 y2 y s : Int), Aside0 (didl kq y1 y2 y l s = some (q1, q2, q3, q4)) ∧ Aside0 (w'.heap[gA]? = some (.cells #[.int .u32 y1, .int .u32 y2, .int .u32 y, .slice A l.length c, .int .i64 s] 72 (0, 0))) ∧ Aside0 (w'.heap[gB]? = some (.cells #[.int .u32 0, .int .u32 0, .int .u32 0, .slice none 0 0, .int .i64 0] 72 (0, 0))) ∧ Aside0 (Below w.heap.size w w'))
    case atStart => exact ⟨_, _, _, _, HG, ⟨blk_put HA2.out 1 _ rfl⟩, ⟨blk_far HB2.out (Ne.symm NE) _⟩, ⟨below_set B2.out GA⟩⟩
    case round =>
      clear a0 af0 a1 af1 a2 af2 a3 af3 a4 af4
      clear HA2 HB2 B2 HG
      obtain ⟨y1, y2, y, s, HL, HA, HB, HW⟩ := hrel
      have d0 : wr.cell? ⟨gA, 0, none⟩ = some (.int .u32 y1) := (blk_cell HA.out 0).trans rfl
      have df0 := blk_frozen HA.out 0
      have d1 : wr.cell? ⟨gA, 1, none⟩ = some (.int .u32 y2) := (blk_cell HA.out 1).trans rfl
      have df1 := blk_frozen HA.out 1
      have d2 : wr.cell? ⟨gA, 2, none⟩ = some (.int .u32 y) := (blk_cell HA.out 2).trans rfl
      have df2 := blk_frozen HA.out 2
      have d3 : wr.cell? ⟨gA, 3, none⟩ = some (.slice A l.length c) := (blk_cell HA.out 3).trans rfl
      have df3 := blk_frozen HA.out 3
      have d4 : wr.cell? ⟨gA, 4, none⟩ = some (.int .i64 s) := (blk_cell HA.out 4).trans rfl
      have df4 := blk_frozen HA.out 4
      cases gk with
      | zero => exact absurd HL.out (by simp [didl])
      | succ n =>
        have hl := HL.out
        rw [didl] at hl
        by_cases hq : Int.tdiv y1 16777216 % 4294967296 = Int.tdiv y2 16777216 % 4294967296
        · rw [if_pos hq] at hl
          have hq0 : (Int.tdiv y1 16777216 % 4294967296 == Int.tdiv y2 16777216 % 4294967296) = true := beq_iff_eq.2 hq
          obtain ⟨b, hb, hl2⟩ := Option.bind_eq_some_iff.mp hl
          have HBt := Aside0.mk hb
          have HL2 := Aside0.mk hl2
          clear hl hb hl2 hq HL
          go_wp2_with fail
          refine still_tail 10 (by kernel_rfl) (by kernel_rfl) (fun w5 hw5 => ?_)
          have HA5 := Aside0.mk (show w5.heap[gA]? = some (.cells #[.int .u32 (y1 * 256 % 4294967296), .int .u32 (y2 * 256 % 4294967296 + 255), .int .u32 y, .slice A l.length c, .int .i64 s] 72 (0, 0)) by rw [hw5]; exact blk_put (blk_put HA.out 0 _ rfl) 1 _ rfl)
          have HB5 := Aside0.mk (show w5.heap[gB]? = some (.cells #[.int .u32 0, .int .u32 0, .int .u32 0, .slice none 0 0, .int .i64 0] 72 (0, 0)) by rw [hw5]; exact blk_far (blk_far HB.out (Ne.symm NE) _) (Ne.symm NE) _)
          have HW5 := Aside0.mk (show Below w.heap.size w w5 by rw [hw5]; exact below_drew (below_set (below_set HW.out GA) GA))
          clear hw5 HA HB HW
          clear d0 df0 d1 df1 d2 df2 d3 df3 d4 df4
          have d0 : w5.cell? ⟨gA, 0, none⟩ = some (.int .u32 (y1 * 256 % 4294967296)) := (blk_cell HA5.out 0).trans rfl
          have df0 := blk_frozen HA5.out 0
          have d1 : w5.cell? ⟨gA, 1, none⟩ = some (.int .u32 (y2 * 256 % 4294967296 + 255)) := (blk_cell HA5.out 1).trans rfl
          have df1 := blk_frozen HA5.out 1
          have d2 : w5.cell? ⟨gA, 2, none⟩ = some (.int .u32 y) := (blk_cell HA5.out 2).trans rfl
          have df2 := blk_frozen HA5.out 2
          have d3 : w5.cell? ⟨gA, 3, none⟩ = some (.slice A l.length c) := (blk_cell HA5.out 3).trans rfl
          have df3 := blk_frozen HA5.out 3
          have d4 : w5.cell? ⟨gA, 4, none⟩ = some (.int .i64 s) := (blk_cell HA5.out 4).trans rfl
          have df4 := blk_frozen HA5.out 4
          simp only [List.take_succ_cons, List.take_zero, List.drop_succ_cons, List.drop_zero]
          iterate 7 still_step
          still_call (Byte_same A c l s b _ (Kd.C_below HR.out HW5.out) HBt.out)
          repeat still_step
          try refine wpStill_nil ?_
          go_wp2_with fail
          go_roundg n
          case measure => omega
          case rel => exact ⟨_, _, _, _, HL2, ⟨blk_put (blk_put HA5.out 2 _ rfl) 4 _ rfl⟩, ⟨blk_far (blk_far HB5.out (Ne.symm NE) _) (Ne.symm NE) _⟩, ⟨below_set (below_set HW5.out GA) GA⟩⟩
        · rw [if_neg hq] at hl
          have hq0 : (Int.tdiv y1 16777216 % 4294967296 == Int.tdiv y2 16777216 % 4294967296) = false := beq_eq_false_iff_ne.2 hq
          simp only [Option.some.injEq, Prod.mk.injEq] at hl
          obtain ⟨rfl, rfl, rfl, rfl⟩ := hl
          clear hq
          have e0 : wr.cell? ⟨gB, 0, none⟩ = some (.int .u32 0) := (blk_cell HB.out 0).trans rfl
          have ef0 := blk_frozen HB.out 0
          have e1 : wr.cell? ⟨gB, 1, none⟩ = some (.int .u32 0) := (blk_cell HB.out 1).trans rfl
          have ef1 := blk_frozen HB.out 1
          have e2 : wr.cell? ⟨gB, 2, none⟩ = some (.int .u32 0) := (blk_cell HB.out 2).trans rfl
          have ef2 := blk_frozen HB.out 2
          have e3 : wr.cell? ⟨gB, 3, none⟩ = some (.slice none 0 0) := (blk_cell HB.out 3).trans rfl
          have ef3 := blk_frozen HB.out 3
          have e4 : wr.cell? ⟨gB, 4, none⟩ = some (.int .i64 0) := (blk_cell HB.out 4).trans rfl
          have ef4 := blk_frozen HB.out 4
          go_wp2_with fail
          refine bodyPost_ret (results_ct rfl _ _ gB 72 #[.int .u32 y1, .int .u32 y2, .int .u32 y, .slice A l.length c, .int .i64 s] (0, 0) _ rfl (blk_put (blk_put (blk_put (blk_put (blk_put HB.out 0 _ rfl) 1 _ rfl) 2 _ rfl) 3 _ rfl) 4 _ rfl) Try.underlying72 rfl (by kernel_rfl)) rfl ?_
          exact ⟨rfl, (below_set (below_set (below_set (below_set (below_set HW.out GB) GB) GB) GB) GB)⟩
  · rw [if_neg hq] at h2
    obtain ⟨⟨q1, q2, q3, q4⟩, hg, h3⟩ := Option.bind_eq_some_iff.mp h2
    simp only [Option.some.injEq, Prod.mk.injEq] at h3
    obtain ⟨rfl, rfl, rfl, rfl, rfl⟩ := h3
    have HG := Aside0.mk hg
    have hq1 : decide (x ≤ m) = false := decide_eq_false hq
    clear hg h2 hq
    go_enter Try.func83, Try.ntmps83
    go_wp2_with (first | ((with_reducible refine gate_dst (N := 2) rfl ?_); refine box_event ?hg (N := 2) ?hd (cs := #[.int .u32 x1, .int .u32 x2, .int .u32 x, .slice A l.length c, .int .i64 t]) (t := 72) ?hr ?_; (case hd => rfl); (case hg => rfl); (case hr => first | (go_simp; done) | (go_simp; rfl)); intro gA hgA wA hA hbA; have HA := Aside0.mk hA; have BA := Aside0.mk hbA; have GA : w.heap.size ≤ gA := Nat.le_of_eq hgA.symm; clear hA hbA hgA) | ((with_reducible refine gate_dst (N := 4) rfl ?_); refine box_event ?hg (N := 4) ?hd (cs := #[.int .u32 0, .int .u32 0, .int .u32 0, .slice none 0 0, .int .i64 0]) (t := 72) ?hr ?_; (case hd => rfl); (case hg => rfl); (case hr => first | (go_simp; done) | (go_simp; rfl)); intro gB hgB wB hB hbB; have HB := Aside0.mk hB; have HA1 := Aside0.mk (blk_below HA.out hbB); have BB := Aside0.mk (below_step BA.out hbB); have GB : w.heap.size ≤ gB := Nat.le_trans BA.out.size (Nat.le_of_eq hgB.symm); have NE : gA ≠ gB := Nat.ne_of_lt (Nat.lt_of_lt_of_eq (blk_lt HA.out) hgB.symm); clear hB hbB hgB HA BA; have a0 : wB.cell? ⟨gA, 0, none⟩ = some (.int .u32 x1) := (blk_cell HA1.out 0).trans rfl; have af0 := blk_frozen HA1.out 0; have a1 : wB.cell? ⟨gA, 1, none⟩ = some (.int .u32 x2) := (blk_cell HA1.out 1).trans rfl; have af1 := blk_frozen HA1.out 1; have a2 : wB.cell? ⟨gA, 2, none⟩ = some (.int .u32 x) := (blk_cell HA1.out 2).trans rfl; have af2 := blk_frozen HA1.out 2; have a3 : wB.cell? ⟨gA, 3, none⟩ = some (.slice A l.length c) := (blk_cell HA1.out 3).trans rfl; have af3 := blk_frozen HA1.out 3; have a4 : wB.cell? ⟨gA, 4, none⟩ = some (.int .i64 t) := (blk_cell HA1.out 4).trans rfl; have af4 := blk_frozen HA1.out 4; have b0 : wB.cell? ⟨gB, 0, none⟩ = some (.int .u32 0) := (blk_cell HB.out 0).trans rfl; have bf0 := blk_frozen HB.out 0; have b1 : wB.cell? ⟨gB, 1, none⟩ = some (.int .u32 0) := (blk_cell HB.out 1).trans rfl; have bf1 := blk_frozen HB.out 1; have b2 : wB.cell? ⟨gB, 2, none⟩ = some (.int .u32 0) := (blk_cell HB.out 2).trans rfl; have bf2 := blk_frozen HB.out 2; have b3 : wB.cell? ⟨gB, 3, none⟩ = some (.slice none 0 0) := (blk_cell HB.out 3).trans rfl; have bf3 := blk_frozen HB.out 3; have b4 : wB.cell? ⟨gB, 4, none⟩ = some (.int .i64 0) := (blk_cell HB.out 4).trans rfl; have bf4 := blk_frozen HB.out 4))
    refine (QE.bitloftref20_Middle.calls x1 x2 p m _ HM.out).mono ?_
    rintro e w' ⟨rfl, ⟨nd, rfl⟩⟩
    have HA2 := Aside0.mk (blk_drewN HA1.out nd)
    have HB2 := Aside0.mk (blk_drewN HB.out nd)
    have B2 := Aside0.mk (pw_below_drewN BB.out nd)
    generalize wB.drewN nd = w1 at HA2 HB2 B2 ⊢
    clear HA1 HB BB
    clear a0 af0 a1 af1 a2 af2 a3 af3 a4 af4
    clear b0 bf0 b1 bf1 b2 bf2 b3 bf3 b4 bf4
    have a0 : w1.cell? ⟨gA, 0, none⟩ = some (.int .u32 x1) := (blk_cell HA2.out 0).trans rfl
    have af0 := blk_frozen HA2.out 0
    have a1 : w1.cell? ⟨gA, 1, none⟩ = some (.int .u32 x2) := (blk_cell HA2.out 1).trans rfl
    have af1 := blk_frozen HA2.out 1
    have a2 : w1.cell? ⟨gA, 2, none⟩ = some (.int .u32 x) := (blk_cell HA2.out 2).trans rfl
    have af2 := blk_frozen HA2.out 2
    have a3 : w1.cell? ⟨gA, 3, none⟩ = some (.slice A l.length c) := (blk_cell HA2.out 3).trans rfl
    have af3 := blk_frozen HA2.out 3
    have a4 : w1.cell? ⟨gA, 4, none⟩ = some (.int .i64 t) := (blk_cell HA2.out 4).trans rfl
    have af4 := blk_frozen HA2.out 4
    go_wp2_with fail
    go_loopg [] k (fun kq w' => ∃ (y1 y2 y s : Int), Aside0 (didl kq y1 y2 y l s = some (q1, q2, q3, q4)) ∧ Aside0 (w'.heap[gA]? = some (.cells #[.int .u32 y1, .int .u32 y2, .int .u32 y, .slice A l.length c, .int .i64 s] 72 (0, 0))) ∧ Aside0 (w'.heap[gB]? = some (.cells #[.int .u32 0, .int .u32 0, .int .u32 0, .slice none 0 0, .int .i64 0] 72 (0, 0))) ∧ Aside0 (Below w.heap.size w w'))
    case atStart => exact ⟨_, _, _, _, HG, ⟨blk_put HA2.out 0 _ rfl⟩, ⟨blk_far HB2.out (Ne.symm NE) _⟩, ⟨below_set B2.out GA⟩⟩
    case round =>
      clear a0 af0 a1 af1 a2 af2 a3 af3 a4 af4
      clear HA2 HB2 B2 HG
      obtain ⟨y1, y2, y, s, HL, HA, HB, HW⟩ := hrel
      have d0 : wr.cell? ⟨gA, 0, none⟩ = some (.int .u32 y1) := (blk_cell HA.out 0).trans rfl
      have df0 := blk_frozen HA.out 0
      have d1 : wr.cell? ⟨gA, 1, none⟩ = some (.int .u32 y2) := (blk_cell HA.out 1).trans rfl
      have df1 := blk_frozen HA.out 1
      have d2 : wr.cell? ⟨gA, 2, none⟩ = some (.int .u32 y) := (blk_cell HA.out 2).trans rfl
      have df2 := blk_frozen HA.out 2
      have d3 : wr.cell? ⟨gA, 3, none⟩ = some (.slice A l.length c) := (blk_cell HA.out 3).trans rfl
      have df3 := blk_frozen HA.out 3
      have d4 : wr.cell? ⟨gA, 4, none⟩ = some (.int .i64 s) := (blk_cell HA.out 4).trans rfl
      have df4 := blk_frozen HA.out 4
      cases gk with
      | zero => exact absurd HL.out (by simp [didl])
      | succ n =>
        have hl := HL.out
        rw [didl] at hl
        by_cases hq : Int.tdiv y1 16777216 % 4294967296 = Int.tdiv y2 16777216 % 4294967296
        · rw [if_pos hq] at hl
          have hq0 : (Int.tdiv y1 16777216 % 4294967296 == Int.tdiv y2 16777216 % 4294967296) = true := beq_iff_eq.2 hq
          obtain ⟨b, hb, hl2⟩ := Option.bind_eq_some_iff.mp hl
          have HBt := Aside0.mk hb
          have HL2 := Aside0.mk hl2
          clear hl hb hl2 hq HL
          go_wp2_with fail
          refine still_tail 10 (by kernel_rfl) (by kernel_rfl) (fun w5 hw5 => ?_)
          have HA5 := Aside0.mk (show w5.heap[gA]? = some (.cells #[.int .u32 (y1 * 256 % 4294967296), .int .u32 (y2 * 256 % 4294967296 + 255), .int .u32 y, .slice A l.length c, .int .i64 s] 72 (0, 0)) by rw [hw5]; exact blk_put (blk_put HA.out 0 _ rfl) 1 _ rfl)
          have HB5 := Aside0.mk (show w5.heap[gB]? = some (.cells #[.int .u32 0, .int .u32 0, .int .u32 0, .slice none 0 0, .int .i64 0] 72 (0, 0)) by rw [hw5]; exact blk_far (blk_far HB.out (Ne.symm NE) _) (Ne.symm NE) _)
          have HW5 := Aside0.mk (show Below w.heap.size w w5 by rw [hw5]; exact below_drew (below_set (below_set HW.out GA) GA))
          clear hw5 HA HB HW
          clear d0 df0 d1 df1 d2 df2 d3 df3 d4 df4
          have d0 : w5.cell? ⟨gA, 0, none⟩ = some (.int .u32 (y1 * 256 % 4294967296)) := (blk_cell HA5.out 0).trans rfl
          have df0 := blk_frozen HA5.out 0
          have d1 : w5.cell? ⟨gA, 1, none⟩ = some (.int .u32 (y2 * 256 % 4294967296 + 255)) := (blk_cell HA5.out 1).trans rfl
          have df1 := blk_frozen HA5.out 1
          have d2 : w5.cell? ⟨gA, 2, none⟩ = some (.int .u32 y) := (blk_cell HA5.out 2).trans rfl
          have df2 := blk_frozen HA5.out 2
          have d3 : w5.cell? ⟨gA, 3, none⟩ = some (.slice A l.length c) := (blk_cell HA5.out 3).trans rfl
          have df3 := blk_frozen HA5.out 3
          have d4 : w5.cell? ⟨gA, 4, none⟩ = some (.int .i64 s) := (blk_cell HA5.out 4).trans rfl
          have df4 := blk_frozen HA5.out 4
          simp only [List.take_succ_cons, List.take_zero, List.drop_succ_cons, List.drop_zero]
          iterate 7 still_step
          still_call (Byte_same A c l s b _ (Kd.C_below HR.out HW5.out) HBt.out)
          repeat still_step
          try refine wpStill_nil ?_
          go_wp2_with fail
          go_roundg n
          case measure => omega
          case rel => exact ⟨_, _, _, _, HL2, ⟨blk_put (blk_put HA5.out 2 _ rfl) 4 _ rfl⟩, ⟨blk_far (blk_far HB5.out (Ne.symm NE) _) (Ne.symm NE) _⟩, ⟨below_set (below_set HW5.out GA) GA⟩⟩
        · rw [if_neg hq] at hl
          have hq0 : (Int.tdiv y1 16777216 % 4294967296 == Int.tdiv y2 16777216 % 4294967296) = false := beq_eq_false_iff_ne.2 hq
          simp only [Option.some.injEq, Prod.mk.injEq] at hl
          obtain ⟨rfl, rfl, rfl, rfl⟩ := hl
          clear hq
          have e0 : wr.cell? ⟨gB, 0, none⟩ = some (.int .u32 0) := (blk_cell HB.out 0).trans rfl
          have ef0 := blk_frozen HB.out 0
          have e1 : wr.cell? ⟨gB, 1, none⟩ = some (.int .u32 0) := (blk_cell HB.out 1).trans rfl
          have ef1 := blk_frozen HB.out 1
          have e2 : wr.cell? ⟨gB, 2, none⟩ = some (.int .u32 0) := (blk_cell HB.out 2).trans rfl
          have ef2 := blk_frozen HB.out 2
          have e3 : wr.cell? ⟨gB, 3, none⟩ = some (.slice none 0 0) := (blk_cell HB.out 3).trans rfl
          have ef3 := blk_frozen HB.out 3
          have e4 : wr.cell? ⟨gB, 4, none⟩ = some (.int .i64 0) := (blk_cell HB.out 4).trans rfl
          have ef4 := blk_frozen HB.out 4
          go_wp2_with fail
          refine bodyPost_ret (results_ct rfl _ _ gB 72 #[.int .u32 y1, .int .u32 y2, .int .u32 y, .slice A l.length c, .int .i64 s] (0, 0) _ rfl (blk_put (blk_put (blk_put (blk_put (blk_put HB.out 0 _ rfl) 1 _ rfl) 2 _ rfl) 3 _ rfl) 4 _ rfl) Try.underlying72 rfl (by kernel_rfl)) rfl ?_
          exact ⟨rfl, (below_set (below_set (below_set (below_set (below_set HW.out GB) GB) GB) GB) GB)⟩
end Go.Proofs.Ytgapkifgddjijaa.Hand
