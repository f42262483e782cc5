/- The contract of encoder.Run, for every list of numbers and of bits. -/
import Derived.Test.YtgapkifgddjijaaHandPutE
import Derived.Test.YtgapkifgddjijaaHandIdx
namespace Go.Proofs.Ytgapkifgddjijaa.Hand
open Go.RowKit Go.Proofs.YtgapkifgddjijaaW.PrintWords Go.Proofs.YtgapkifgddjijaaW.PrintLast Go.Proofs.YtgapkifgddjijaaW.PrintMore
open Go.Proofs.Ytgapkifgddjijaa.QE

theorem Cbool_at {w : World} {A : Option Addr} {n : Nat} {xs : List Bool} (h : Kd.C Kd.bool w A n xs) (i : Nat) (hi : i < xs.length) : ∃ ad, A = some ad ∧ w.cell? (ad.add i) = some (.bool (xs[i]'hi)) := by
  obtain ⟨ad, e, hc⟩ := h.2.2 (by have := h.1; omega)
  obtain ⟨c, hl, hp, hcell⟩ := hc i _ (List.getElem?_eq_getElem hi)
  have hp' : c = [.bool xs[i]] := hp
  subst hp'
  refine ⟨ad, e, ?_⟩
  have := hcell 0 _ rfl
  rw [show i * Kd.bool.sz + 0 = i by show i * 1 + 0 = i; omega] at this
  exact this
theorem Cint_at' {k : IntKind} {w : World} {A : Option Addr} {n : Nat} {xs : List Int} (h : Kd.C (Kd.int k) w A n xs) (i : Nat) (hi : i < xs.length) : ∃ ad, A = some ad ∧ w.cell? (ad.add i) = some (.int k (xs[i]'hi)) := by
  obtain ⟨ad, e, hc⟩ := Cint_at h i hi
  exact ⟨ad, e, by rw [hc, List.getD_eq_getElem?_getD, List.getElem?_eq_getElem hi]; rfl⟩

def runl (k : Nat) : Int → Int → List Int → List Int → List Bool → Option (Int × Int × List Int)
  | x1, x2, out, p :: ps, b :: bs => (putf k x1 x2 p b out).bind fun q => runl k q.1 q.2.1 q.2.2 ps bs
  | x1, x2, out, _, _ => some (x1, x2, out)
def Runf (k : Nat) (l0 : List Int) (l1 : List Bool) : Option (List Int × Int) :=
  if 2000 < l1.length then some (([] : List Int), 4) else if l0.length = l1.length then (if l0.any noProb = true then some (([] : List Int), 2) else (runl k 0 4294967295 ([] : List Int) l0 l1).bind fun q => (encoder_end.f q.1 q.2.1 q.2.2).bind fun y => some (y, 0)) else some (([] : List Int), 2)

theorem putl_mono : ∀ k x1 x2 l, LeO (putl k x1 x2 l) (putl (k + 1) x1 x2 l)
  | 0, _, _, _ => by intro r h; cases h
  | k + 1, x1, x2, l => by
    rw [putl, putl]
    exact LeO.ite (LeO.ite (putl_mono k _ _ _) (LeO.refl _)) (LeO.refl _)
theorem putf_mono (x1 x2 p : Int) (b : Bool) (l : List Int) (k : Nat) : LeO (putf k x1 x2 p b l) (putf (k + 1) x1 x2 p b l) := by
  unfold putf
  exact LeO.ite (putl_mono _ _ _ _) (putl_mono _ _ _ _)
theorem Putf_mono (x1 x2 : Int) (l : List Int) (p : Int) (b : Bool) (k : Nat) : LeO (Putf k x1 x2 l p b) (Putf (k + 1) x1 x2 l p b) := by
  unfold Putf
  refine LeO.bind (LeO.refl _) (fun t => LeO.ite (LeO.bind (LeO.refl _) (fun u => LeO.ite (LeO.ite (LeO.bind (putf_mono _ _ _ _ _ _) (fun _ => LeO.refl _)) (LeO.refl _)) (LeO.refl _))) (LeO.refl _))
theorem runl_mono (k : Nat) : ∀ (ps : List Int) (x1 x2 : Int) (out : List Int) (bs : List Bool), LeO (runl k x1 x2 out ps bs) (runl (k + 1) x1 x2 out ps bs)
  | [], _, _, _, _ => by simp only [runl]; exact LeO.refl _
  | p :: ps, x1, x2, out, [] => by simp only [runl]; exact LeO.refl _
  | p :: ps, x1, x2, out, b :: bs => by
    simp only [runl]
    exact LeO.bind (putf_mono _ _ _ _ _ _) (fun q => runl_mono k ps _ _ _ _)
theorem Runf_mono (l0 : List Int) (l1 : List Bool) (k : Nat) : LeO (Runf k l0 l1) (Runf (k + 1) l0 l1) := by
  unfold Runf
  exact LeO.ite (LeO.refl _) (LeO.ite (LeO.ite (LeO.refl _) (LeO.bind (runl_mono k _ _ _ _ _) (fun _ => LeO.refl _))) (LeO.refl _))

set_option maxHeartbeats 1600000 in
set_option maxRecDepth 100000 in
theorem Run_calls (K : Nat) (A0 : Option Addr) (c0 : Nat) (l0 : List Int) (A1 : Option Addr) (c1 : Nat) (l1 : List Bool) (r1 : List Int) (r2 : Int) (w : World)
    (hr0 : Kd.C (Kd.int .i64) w A0 l0.length l0) (_ : l0.length ≤ c0) (hr1 : Kd.C Kd.bool w A1 l1.length l1) (_ : l1.length ≤ c1) (h : Runf K l0 l1 = some (r1, r2)) :
    Calls Try.prog 24 #[.slice A0 l0.length c0, .slice A1 l1.length c1] w fun e w' => ∃ v1_ : Value, e = .returned (.tuple #[v1_, .int .i64 r2]) ∧ Kd.R (Kd.int .u8) 5 w' w.heap.size (fun _ => True) v1_ r1 ∧ Below w.heap.size w w' := by
  have HR0 := Aside0.mk hr0
  have HR1 := Aside0.mk hr1
  have hm0 : l0.length ≤ 9223372036854775807 := hr0.2.1
  have hm1 : l1.length ≤ 9223372036854775807 := hr1.2.1
  clear hr0 hr1
  have H := Aside0.mk h
  clear h
  by_cases hlen : 2000 < l1.length
  · have h2 := H.out
    simp only [Runf, if_pos hlen, Option.some.injEq, Prod.mk.injEq] at h2
    obtain ⟨rfl, rfl⟩ := h2
    clear H
    go_enter Try.func24, Try.ntmps24
    go_wp2_with fail
    go_ret2
    exact ⟨_, rfl, Kd.R_nil _ _ _ _ _, Below.refl _ _⟩
  · by_cases heq : l0.length = l1.length
    · have e1 : (l0.length == l1.length) = true := beq_iff_eq.2 heq
      have e2 : (l0.length != l1.length) = false := bne_eq_false_iff_eq.2 heq
      have e3 : ((l0.length : Int) == (l1.length : Int)) = true := beq_iff_eq.2 (by omega)
      have e4 : ((l0.length : Int) != (l1.length : Int)) = false := bne_eq_false_iff_eq.2 (by omega)
      have HEQ := Aside0.mk heq
      clear heq
      cases hany : l0.any noProb with
      | true =>
        have HANY := Aside0.mk hany
        have h2 := H.out
        simp only [Runf, if_neg hlen, if_pos HEQ.out, hany, ↓reduceIte, Option.some.injEq, Prod.mk.injEq] at h2
        obtain ⟨rfl, rfl⟩ := h2
        clear H hany
        go_enter Try.func24, Try.ntmps24
        go_wp2_with fail
        refine (ContainsFunc_calls71 noProb Run1_calls A0 c0 l0 _ HR0.out).mono ?_
        rintro e w' ⟨rfl, ⟨nd, rfl⟩⟩
        rw [HANY.out]
        go_wp2_with fail
        go_ret2
        exact ⟨_, rfl, Kd.R_nil _ _ _ _ _, pw_below_drewN (Below.refl _ _) _⟩
      | false =>
        have HANY := Aside0.mk hany
        have h2 := H.out
        simp only [Runf, if_neg hlen, if_pos HEQ.out, hany, Bool.false_eq_true, ↓reduceIte] at h2
        obtain ⟨⟨q1, q2, q3⟩, hq, h3⟩ := Option.bind_eq_some_iff.mp h2
        obtain ⟨y, hy, h4⟩ := Option.bind_eq_some_iff.mp h3
        simp only [Option.some.injEq, Prod.mk.injEq] at h4
        obtain ⟨rfl, rfl⟩ := h4
        have HQ := Aside0.mk hq
        have HY := Aside0.mk hy
        clear H hany h2 h3 hq hy
        go_enter Try.func24, Try.ntmps24
        go_wp2_with fail
        refine (ContainsFunc_calls71 noProb Run1_calls A0 c0 l0 _ HR0.out).mono ?_
        rintro e w' ⟨rfl, ⟨nd, rfl⟩⟩
        rw [HANY.out]
        go_wp2_with fail
        refine (QE.encoder_New.calls 0 4294967295 [] _ rfl).mono ?_
        rintro e w1 ⟨v, rfl, hR1, hb1⟩
        obtain ⟨A2, c2, rfl⟩ := Kd.R_slice hR1
        have B1 := Aside0.mk (below_step (pw_below_drewN (Below.refl w.heap.size w) nd) hb1)
        have R1 := Aside0.mk (Kd.R_lower hR1 (Nat.le_refl w.heap.size))
        clear hR1 hb1
        go_wp2_with (first | ((with_reducible refine gate_dst (N := 6) rfl ?_); refine box_event ?hg (N := 6) ?hd (cs := #[.int .u32 0, .int .u32 0, .slice none 0 0]) (t := 42) ?hr ?_; (case hd => rfl); (case hg => rfl); (case hr => first | (go_simp; done) | (go_simp; rfl)); intro g hg w2 hG hb2; have HG := Aside0.mk hG; have B2 := Aside0.mk (below_step B1.out hb2); have GE : w.heap.size ≤ g := Nat.le_trans B1.out.size (Nat.le_of_eq hg.symm); have R2 := Aside0.mk (Kd.R_below R1.out hb2); clear hG hb2 hg B1 R1; have g0 : w2.cell? ⟨g, 0, none⟩ = some (.int .u32 0) := (blk_cell HG.out 0).trans rfl; have g1 : w2.cell? ⟨g, 1, none⟩ = some (.int .u32 0) := (blk_cell HG.out 1).trans rfl; have g2 : w2.cell? ⟨g, 2, none⟩ = some (.slice none 0 0) := (blk_cell HG.out 2).trans rfl; have gf0 := blk_frozen HG.out 0; have gf1 := blk_frozen HG.out 1; have gf2 := blk_frozen HG.out 2))
        go_loopg [24] l1.length (fun n v24 w' => ∃ (k : Nat) (x1 x2 : Int) (out : List Int) (v : Value), v24 = .int .i64 (k : Int) ∧ Aside0 (k + n = l1.length) ∧ Aside0 (runl K x1 x2 out (l0.drop k) (l1.drop k) = some (q1, q2, q3)) ∧ Aside0 (w'.heap[g]? = some (.cells #[.int .u32 x1, .int .u32 x2, v] 42 (0, 0))) ∧ Aside0 (Kd.R (Kd.int .u8) 5 w' w.heap.size (fun _ => True) v out) ∧ Aside0 (Below w.heap.size w w'))
        case atStart => exact ⟨0, 0, 4294967295, [], _, rfl, ⟨by omega⟩, ⟨HQ.out⟩, ⟨blk_put (blk_put (blk_put HG.out 0 _ rfl) 1 _ rfl) 2 _ rfl⟩, ⟨Kd.R_set (Kd.R_set (Kd.R_set R2.out HG.out (by decide) 0 _) (blk_put HG.out 0 _ rfl) (by decide) 1 _) (blk_put (blk_put HG.out 0 _ rfl) 1 _ rfl) (by decide) 2 _⟩, ⟨below_set (below_set (below_set B2.out GE) GE) GE⟩⟩
        case round =>
          clear g0 g1 g2 gf0 gf1 gf2 HG B2 R2
          obtain ⟨k, x1, x2, out, v, rfl, HK, HL, HG, R2, B2⟩ := hrel
          by_cases hk : k < l1.length
          · have hk0 : k < l0.length := by rw [HEQ.out]; exact hk
            obtain ⟨ad1, rfl, hc1⟩ := Cbool_at HR1.out k hk
            obtain ⟨ad0, rfl, hc0⟩ := Cint_at' HR0.out k hk0
            have k1 := pw_cell_below B2.out hc1
            have k0 := pw_cell_below B2.out hc0
            have hl := HL.out
            rw [List.drop_eq_getElem_cons hk0, List.drop_eq_getElem_cons hk, runl] at hl
            obtain ⟨⟨t1, t2, t3⟩, hp, hl2⟩ := Option.bind_eq_some_iff.mp hl
            have HP := Aside0.mk hp
            have HL2 := Aside0.mk hl2
            clear hl hp hl2 HL hc1 hc0
            go_wp2_with fail
            refine (put_calls K w.heap.size g x1 x2 _ _ out v t1 t2 t3 _ GE (by simpa using B2.out.size) (by (with_reducible repeat (first | refine blk_drewN ?_ _ | refine blk_drew ?_)); exact HG.out) (by (with_reducible repeat (first | apply Kd.R_drewN | apply Kd.R_drew)); exact R2.out) HP.out).mono ?_
            rintro e w3 ⟨v', rfl, hG3, hR3, hk3, hb3⟩
            have HG3 := Aside0.mk hG3
            have R3 := Aside0.mk hR3
            have B3 := Aside0.mk (Below.trans (by repeat (first | exact B2.out | apply pw_below_drewN | apply below_drew)) hb3)
            clear hG3 hR3 hk3 hb3
            go_wp2_with fail
            go_roundg (gk - 1)
            case measure => have := HK.out; omega
            case rel => exact ⟨k + 1, t1, t2, t3, v', by go_num, ⟨by have := HK.out; omega⟩, HL2, HG3, R3, B3⟩
          · have hl := HL.out
            rw [List.drop_eq_nil_of_le (by have := HEQ.out; omega), List.drop_eq_nil_of_le (by omega)] at hl
            simp only [runl, Option.some.injEq, Prod.mk.injEq] at hl
            obtain ⟨rfl, rfl, rfl⟩ := hl
            obtain ⟨A3, c3, rfl⟩ := Kd.R_slice R2.out
            obtain ⟨A3', c3', he3, hl3, hC3⟩ := Kd.R_reads R2.out
            obtain ⟨rfl, rfl⟩ : A3 = A3' ∧ c3 = c3' := by simpa using he3
            have HL3 := Aside0.mk hl3
            have HC3 := Aside0.mk hC3
            clear he3 hl3 hC3
            have g0 : wr.cell? ⟨g, 0, none⟩ = some (.int .u32 x1) := (blk_cell HG.out 0).trans rfl
            have g1 : wr.cell? ⟨g, 1, none⟩ = some (.int .u32 x2) := (blk_cell HG.out 1).trans rfl
            have g2 : wr.cell? ⟨g, 2, none⟩ = some (.slice A3 out.length c3) := (blk_cell HG.out 2).trans rfl
            go_wp2_with fail
            refine (QE.encoder_end.calls x1 x2 A3 c3 out y _ (by (with_reducible repeat (first | refine Kd.C_drewN ?_ _ | refine Kd.C_drew ?_)); exact HC3.out) HL3.out HY.out).mono ?_
            rintro e w3 ⟨v, rfl, hR3, hb3⟩
            have R3 := Aside0.mk (Kd.R_lower hR3 (by simpa using B2.out.size))
            have B3 := Aside0.mk (below_step (by repeat (first | exact B2.out | apply pw_below_drewN | apply below_drew)) hb3)
            clear hR3 hb3
            go_wp2_with fail
            go_ret2
            exact ⟨_, rfl, R3.out, B3.out⟩
    · have e1 : (l0.length == l1.length) = false := beq_eq_false_iff_ne.2 heq
      have e2 : (l0.length != l1.length) = true := bne_iff_ne.2 heq
      have e3 : ((l0.length : Int) == (l1.length : Int)) = false := beq_eq_false_iff_ne.2 (by omega)
      have e4 : ((l0.length : Int) != (l1.length : Int)) = true := bne_iff_ne.2 (by omega)
      have h2 := H.out
      simp only [Runf, if_neg hlen, if_neg heq, Option.some.injEq, Prod.mk.injEq] at h2
      obtain ⟨rfl, rfl⟩ := h2
      clear H
      go_enter Try.func24, Try.ntmps24
      go_wp2_with fail
      go_ret2
      exact ⟨_, rfl, Kd.R_nil _ _ _ _ _, Below.refl _ _⟩
end Go.Proofs.Ytgapkifgddjijaa.Hand
