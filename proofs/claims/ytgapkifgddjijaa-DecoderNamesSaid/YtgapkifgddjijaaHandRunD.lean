/- The contract of decoder.Run. -/
import Derived.Test.YtgapkifgddjijaaHandGetE
namespace Go.Proofs.Ytgapkifgddjijaa.Hand
open Go.RowKit Go.Proofs.YtgapkifgddjijaaW.PrintWords Go.Proofs.YtgapkifgddjijaaW.PrintLast Go.Proofs.YtgapkifgddjijaaW.PrintMore
open Go.Proofs.Ytgapkifgddjijaa.QE
theorem info4 : (Try.prog.info? 4).map (fun i => (i.zero, i.size, i.bytes)) = some (some (.bool false), 1, 1) := by kernel_rfl
theorem C_lt {α : Type} {d : Kd α} {w : World} {A : Option Addr} {n : Nat} {xs : List α} (hs : 0 < d.sz) (h : d.C w A n xs) : ∀ ad, A = some ad → 0 < n → ad.block < w.heap.size := by
  intro ad e hn
  obtain ⟨ad', e', hc⟩ := h.2.2 hn
  have : ad' = ad := by rw [e'] at e; injection e
  subst this
  have hl : 0 < xs.length := by have := h.1; omega
  obtain ⟨c, hcl, _, hcell⟩ := hc 0 xs[0] (List.getElem?_eq_getElem hl)
  have hc0 : 0 < c.length := by rw [hcl]; exact hs
  have h1 := hcell 0 c[0] (List.getElem?_eq_getElem hc0)
  have hb : (ad'.add (0 * d.sz + 0)).block = ad'.block := by unfold Addr.add; split <;> rfl
  have hlt := World.block_lt_of_cell? w _ h1
  rwa [hb] at hlt

def grun (k : Nat) : Int → Int → Int → List Int → Int → List Int → List Bool → Option (List Bool)
  | x1, x2, x, l, t, p :: ps, acc => (getf k x1 x2 x l t p).bind fun q => if acc.length < 140737488355328 then grun k q.1 q.2.1 q.2.2.1 l q.2.2.2.1 ps (acc ++ [q.2.2.2.2]) else none
  | _, _, _, _, _, [], acc => some acc
def RunDf (k : Nat) (l ps : List Int) : Option (List Bool × Int) :=
  if 20000 < l.length then some (([] : List Bool), 4) else if 2000 < ps.length then some (([] : List Bool), 4) else if ps.any wrongf = true then some (([] : List Bool), 2) else (startl k 0 l 0).bind fun q => (grun k 0 4294967295 q.1 l q.2 ps []).bind fun bs => some (bs, 0)

set_option maxHeartbeats 1600000 in
set_option maxRecDepth 100000 in
theorem RunD_calls (K : Nat) (A : Option Addr) (c : Nat) (l : List Int) (A1 : Option Addr) (c1 : Nat) (ps : List Int) (r1 : List Bool) (r2 : Int) (w : World)
    (hr0 : Kd.C (Kd.int .u8) w A l.length l) (hr1 : Kd.C (Kd.int .i64) w A1 ps.length ps) (h : RunDf K l ps = some (r1, r2)) :
    Calls Try.prog 39 #[.slice A l.length c, .slice A1 ps.length c1] w fun e w' => ∃ v0_ : Value, e = .returned (.tuple #[v0_, .int .i64 r2]) ∧ Kd.R Kd.bool 4 w' w.heap.size (fun _ => True) v0_ r1 ∧ Below w.heap.size w w' := by
  have HR0 := Aside0.mk hr0
  have HR1 := Aside0.mk hr1
  have hm0 : l.length ≤ 9223372036854775807 := hr0.2.1
  have hm1 : ps.length ≤ 9223372036854775807 := hr1.2.1
  clear hr0 hr1
  have H := Aside0.mk h
  clear h
  by_cases h20 : 20000 < l.length
  · have h2 := H.out
    simp only [RunDf, if_pos h20, Option.some.injEq, Prod.mk.injEq] at h2
    obtain ⟨rfl, rfl⟩ := h2
    clear H
    go_enter Try.func39, Try.ntmps39
    go_wp2_with fail
    go_ret2
    exact ⟨_, rfl, Kd.R_nil _ _ _ _ _, Below.refl _ _⟩
  · by_cases hlen : 2000 < ps.length
    · have h2 := H.out
      simp only [RunDf, if_neg h20, if_pos hlen, Option.some.injEq, Prod.mk.injEq] at h2
      obtain ⟨rfl, rfl⟩ := h2
      clear H
      go_enter Try.func39, Try.ntmps39
      go_wp2_with fail
      go_ret2
      exact ⟨_, rfl, Kd.R_nil _ _ _ _ _, Below.refl _ _⟩
    · cases hany : ps.any wrongf with
      | true =>
        have HANY := Aside0.mk hany
        have h2 := H.out
        simp only [RunDf, if_neg h20, if_neg hlen, hany, ↓reduceIte, Option.some.injEq, Prod.mk.injEq] at h2
        obtain ⟨rfl, rfl⟩ := h2
        clear H hany
        go_enter Try.func39, Try.ntmps39
        go_wp2_with fail
        refine (ContainsFunc_calls80 wrongf wrong_calls A1 c1 ps _ HR1.out).mono ?_
        rintro e w' ⟨rfl, ⟨nd, rfl⟩⟩
        rw [HANY.out]
        go_wp2_with fail
        go_ret2
        exact ⟨_, rfl, Kd.R_nil _ _ _ _ _, pw_below_drewN (Below.refl _ _) _⟩
      | false =>
        have HANY := Aside0.mk hany
        have h2 := H.out
        simp only [RunDf, if_neg h20, if_neg hlen, hany, Bool.false_eq_true, ↓reduceIte] at h2
        obtain ⟨⟨q1, q2⟩, hq, h3⟩ := Option.bind_eq_some_iff.mp h2
        obtain ⟨bs, hy, h4⟩ := Option.bind_eq_some_iff.mp h3
        simp only [Option.some.injEq, Prod.mk.injEq] at h4
        obtain ⟨rfl, rfl⟩ := h4
        have HQ := Aside0.mk hq
        have HY := Aside0.mk hy
        clear H hany h2 h3 hq hy
        go_enter Try.func39, Try.ntmps39
        go_wp2_with fail
        refine (ContainsFunc_calls80 wrongf wrong_calls A1 c1 ps _ HR1.out).mono ?_
        rintro e w' ⟨rfl, ⟨nd, rfl⟩⟩
        rw [HANY.out]
        go_wp2_with fail
        refine (start_calls K A c l q1 q2 _ (Kd.C_drewN HR0.out _) HQ.out).mono ?_
        rintro e w1 ⟨rfl, hb1⟩
        have B1 := Aside0.mk (below_step (pw_below_drewN (Below.refl w.heap.size w) nd) hb1)
        clear hb1
        go_wp2_with (first | ((with_reducible refine gate_dst (N := 6) rfl ?_); refine box_event ?hg (N := 6) ?hd (cs := #[.int .u32 0, .int .u32 0, .int .u32 0, .slice none 0 0, .int .i64 0]) (t := 72) ?hr ?_; (case hd => rfl); (case hg => rfl); (case hr => first | (go_simp; done) | (go_simp; rfl)); intro g hg w2 hG hb2; have HG := Aside0.mk hG; have B2 := Aside0.mk (below_step B1.out hb2); have GE : w.heap.size ≤ g := Nat.le_trans B1.out.size (Nat.le_of_eq hg.symm); clear hG hb2 hg B1; have g0 : w2.cell? ⟨g, 0, none⟩ = some (.int .u32 0) := (blk_cell HG.out 0).trans rfl; have gf0 := blk_frozen HG.out 0; have g1 : w2.cell? ⟨g, 1, none⟩ = some (.int .u32 0) := (blk_cell HG.out 1).trans rfl; have gf1 := blk_frozen HG.out 1; have g2 : w2.cell? ⟨g, 2, none⟩ = some (.int .u32 0) := (blk_cell HG.out 2).trans rfl; have gf2 := blk_frozen HG.out 2; have g3 : w2.cell? ⟨g, 3, none⟩ = some (.slice none 0 0) := (blk_cell HG.out 3).trans rfl; have gf3 := blk_frozen HG.out 3; have g4 : w2.cell? ⟨g, 4, none⟩ = some (.int .i64 0) := (blk_cell HG.out 4).trans rfl; have gf4 := blk_frozen HG.out 4))
        go_loopg [7, 24] ps.length (fun n v7 v24 w' => ∃ (i : Nat) (x1 x2 x t : Int) (acc : List Bool), v24 = .int .i64 (i : Int) ∧ Aside0 (i + n = ps.length) ∧ Aside0 (grun K x1 x2 x l t (ps.drop i) acc = some bs) ∧ Aside0 (w'.heap[g]? = some (.cells #[.int .u32 x1, .int .u32 x2, .int .u32 x, .slice A l.length c, .int .i64 t] 72 (0, 0))) ∧ Aside0 (Kd.R Kd.bool 4 w' w.heap.size (fun _ => True) v7 acc) ∧ Aside0 (Below w.heap.size w w'))
        case atStart => exact ⟨0, 0, 4294967295, q1, q2, [], rfl, ⟨by omega⟩, ⟨HY.out⟩, ⟨blk_put (blk_put (blk_put (blk_put (blk_put HG.out 0 _ rfl) 1 _ rfl) 2 _ rfl) 3 _ rfl) 4 _ rfl⟩, ⟨Kd.R_nil _ _ _ _ _⟩, ⟨below_set (below_set (below_set (below_set (below_set B2.out GE) GE) GE) GE) GE⟩⟩
        case round =>
          clear g0 g1 g2 g3 g4 gf0 gf1 gf2 gf3 gf4 HG B2
          obtain ⟨i, x1, x2, x, t, acc, rfl, HK, HL, HG, R2, B2⟩ := hrel
          by_cases hk : i < ps.length
          · obtain ⟨ad1, rfl, hc1⟩ := Cint_at' HR1.out i hk
            have k1 := pw_cell_below B2.out hc1
            have hl := HL.out
            rw [List.drop_eq_getElem_cons hk, grun] at hl
            obtain ⟨⟨t1, t2, t3, t4, t5⟩, hp, hl2⟩ := Option.bind_eq_some_iff.mp hl
            have HP := Aside0.mk hp
            by_cases ha : acc.length < 140737488355328
            case neg => rw [if_neg ha] at hl2; cases hl2
            case pos =>
            rw [if_pos ha] at hl2
            have HL2 := Aside0.mk hl2
            have LM := Aside0.mk ha
            clear hl hp hl2 HL hc1 ha
            go_wp2_with fail
            refine (get_calls K g x1 x2 x A c l t ps[i] t1 t2 t3 t4 t5 _ HG.out (Kd.C_below HR0.out B2.out) (fun ad e hn e2 => by have := C_lt (by decide) HR0.out ad e hn; have := GE; omega) HP.out).mono ?_
            rintro e w3 ⟨rfl, hG3, hg3⟩
            have HG3 := Aside0.mk hG3
            have R3 := Aside0.mk (Kd.R_mono (Kd.R_step (Kd.R_types R2.out HG.out (by decide)) (fun k_ hk hlt => hg3.block k_ hlt (fun e => hk.2 (by injection e with e)))) (fun _ hk => hk.1))
            have B3 := Aside0.mk (Below.trans B2.out (⟨hg3.os, hg3.tape, hg3.output, hg3.size, fun k_ hk => hg3.block k_ (Nat.lt_of_lt_of_le hk B2.out.size) (fun e => Nat.ne_of_lt (Nat.lt_of_lt_of_le hk GE) (by injection e))⟩ : Below w.heap.size wr w3))
            clear hG3 hg3 HG R2 B2 k1
            go_wp2_with (first | ((with_reducible refine gate_builtin (b := .append) (xs := #[.tmp 28, .tmp 31]) rfl ?_); at_builtin; refine Kd.R_append Kd.bool (w0 := w) w.heap.size rfl (.tmp 28) (.tmp 31) 29 4 (.bool false) 1 rfl Try.underlying29 info4 rfl (by decide) (by omega) _ acc t5 [.bool t5] (fun _ => True) (fun _ => False) rfl rfl ?aP (fun _ hk => hk.elim) ?aF ?aO ?aB ?aS ?aL ?_; (case aP => exact rfl); (case aB => exact B3.out); (case aF => exact (fun _ _ => trivial)); (case aO => exact R3.out); (case aS => exact below_size B3.out); (case aL => have := LM.out; omega); intro v4 w4 ho hb hg hat; have R4 := Aside0.mk ho; have B4 := Aside0.mk hb; have HG4 := Aside0.mk (blk_grown HG3.out hg (Kd.R_ne R3.out HG3.out (by decide))); clear ho hb hg hat HG3 R3 B3))
            go_roundg (gk - 1)
            case measure => have := HK.out; omega
            case rel => exact ⟨i + 1, t1, t2, t3, t4, acc ++ [t5], by go_num, ⟨by have := HK.out; omega⟩, HL2, HG4, R4, B4⟩
          · have hl := HL.out
            rw [List.drop_eq_nil_of_le (by omega)] at hl
            simp only [grun, Option.some.injEq] at hl
            subst hl
            go_wp2_with fail
            go_ret2
            exact ⟨_, rfl, R2.out, B2.out⟩
end Go.Proofs.Ytgapkifgddjijaa.Hand
