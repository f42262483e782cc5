/- EncoderStays: after each bit the encoder is valid, and what was given out stays the beginning of what is given out. -/
import Derived.Test.YtgapkifgddjijaaEncPut
import Derived.Test.YtgapkifgddjijaaEncAlive
import Derived.Test.YtgapkifgddjijaaQBx9
import Derived.OpenShut
namespace Go.Proofs.Ytgapkifgddjijaa.Pure
open Go Go.RowKit Go.Proofs.Ytgapkifgddjijaa.QB Go.Proofs.Ytgapkifgddjijaa.Enc Go.Proofs.YtgapkifgddjijaaW.PrintWords Go.Proofs.YtgapkifgddjijaaW.PrintLast
theorem Begins_ok (a e : List Int) : bitloftref20_Begins.f (a ++ e) a = some true := by
  unfold bitloftref20_Begins.f
  rw [if_pos (by rw [List.length_append]; omega), if_pos (by omega), if_pos (by rw [List.length_append]; omega), Int.toNat_natCast, List.take_left', beq_self_eq_true]
  rfl
theorem stays_l0 (ps : List Int) (bs : List Bool) (hn : ps.length ≤ 100) (hb : ps.length = bs.length) (hp : ∀ p ∈ ps, 0 ≤ p ∧ p ≤ 4095) : ∀ (d k : Nat) (i : Nat) (x1 x2 : Int) (o : List Int) (al : List Int), i + d = ps.length → d + 10 < k → Ok x1 x2 → x1 / 16777216 ≠ x2 / 16777216 → o.length ≤ 4 * i →
    al = ende (rn x1 x2 o (ps.drop i) (bs.drop i)).1 (rn x1 x2 o (ps.drop i) (bs.drop i)).2.2 →
    bitloftlaw20_EncoderStays.l0 k ps bs true al 0 (i : Int) x1 x2 o = some true := by
  intro d
  induction d with
  | zero =>
    intro k i x1 x2 o al hi hk h hne ho ha
    obtain ⟨k, rfl⟩ : ∃ m, k = m + 1 := ⟨k - 1, by omega⟩
    rw [List.drop_eq_nil_of_le (by omega)] at ha
    simp only [rn] at ha
    have hlen : al.length = o.length + 4 := by rw [ha]; unfold ende; simp only [List.length_append, List.length_cons, List.length_nil]
    have hE : edd x1 x2 o = (al, 0) := by
      unfold edd
      rw [if_pos (chk_mk h.lt hne (by omega)), if_neg (by omega), ha]
    rw [bitloftlaw20_EncoderStays.l0.eq_2, if_neg (by omega), EndB_ok, hE, Option.bind_some, if_pos rfl, if_pos rfl, if_pos rfl, if_pos rfl, IntWalk.wrap64_in _ (by omega), if_pos (by omega), IntWalk.wrap64_in (4 * (bs.length : Int)) (by omega), IntWalk.wrap64_in _ (by omega), decide_eq_true (by omega)]
  | succ d ih =>
    intro k i x1 x2 o al hi hk h hne ho ha
    obtain ⟨k, rfl⟩ : ∃ m, k = m + 1 := ⟨k - 1, by omega⟩
    have hl : i < ps.length := by omega
    have hl' : i < bs.length := by omega
    have e : rd ps (i : Int) = ps[i] := by
      unfold rd
      rw [Int.toNat_natCast, List.getD_eq_getElem?_getD, List.getElem?_eq_getElem hl]
      rfl
    have e' : rdOf false bs (i : Int) = bs[i] := by
      unfold rdOf
      rw [Int.toNat_natCast, List.getD_eq_getElem?_getD, List.getElem?_eq_getElem hl']
      rfl
    obtain ⟨p0, p1⟩ := hp ps[i] (List.getElem_mem hl)
    obtain ⟨y1, y2, t, g, ok, ney, el, _⟩ := stp_ok h p0 p1 bs[i]
    have lt : (o ++ t).length ≤ 20000 := by rw [List.length_append]; omega
    have put : encoder_Put.f k x1 x2 o ps[i] bs[i] = some (y1, y2, o ++ t, 0) := by
      have a : encoder_Put.f k x1 x2 o ps[i] bs[i] = some (ptd x1 x2 o ps[i] bs[i]) := Putf_ok (by omega) h.lo h.hi o ps[i] bs[i]
      rw [a]
      unfold ptd
      rw [if_pos (chk_mk h.lt hne (by omega)), if_pos ((prb_iff _).2 ⟨p0, p1⟩), g o, if_neg (by show ¬ ((o ++ t).length : Int) > 20000; omega)]
    rw [List.drop_eq_getElem_cons hl, List.drop_eq_getElem_cons hl'] at ha
    simp only [rn] at ha
    rw [g o] at ha
    simp only [] at ha
    have pre : ∃ f, al = (o ++ t) ++ f := by
      obtain ⟨_, f, hf, _⟩ := rn_ok (ps.drop (i + 1)) (bs.drop (i + 1)) y1 y2 (o ++ t) ok (fun q hq => hp q (List.mem_of_mem_drop hq))
      rw [ha, hf]
      unfold ende
      exact ⟨f ++ _, by rw [List.append_assoc]⟩
    obtain ⟨f, hf⟩ := pre
    have hlt : ¬ (((o ++ t).length : Int) > wrap64 ((o.length : Int) + 4)) := by
      rw [IntWalk.wrap64_in _ (by omega), List.length_append]
      omega
    obtain ⟨ya, yb, yc⟩ := ok
    rw [bitloftlaw20_EncoderStays.l0.eq_2, if_pos (by omega), if_pos (by omega), if_pos (by omega), e, e', put, Option.bind_some]
    simp only [if_true]
    rw [Check_ok ya (by omega) (by omega) yc, chk_mk yb ney lt, Option.bind_some, if_pos rfl, if_neg hlt, Begins_ok, Option.bind_some, if_pos rfl]
    have bg : bitloftref20_Begins.f al (o ++ t) = some true := by rw [hf]; exact Begins_ok _ _
    rw [bg, Option.bind_some, if_pos rfl, IntWalk.wrap64_in _ (by omega), show (i : Int) + 1 = ((i + 1 : Nat) : Int) by omega]
    exact ih k (i + 1) y1 y2 (o ++ t) al (by omega) (by omega) ⟨ya, yb, yc⟩ ney (by rw [List.length_append]; omega) ha
theorem EncoderStays (ps : List Int) (bs : List Bool) (_ : ∀ n ∈ ps, (Lit.int .i64 n).wf = true) : ∃ k, bitloftlaw20_EncoderStays.f k ps bs = some true := by
  refine ⟨2200, ?_⟩
  have skip : bitloftlaw20_EncoderStays.j0 2200 ps bs true true = some true := by rw [bitloftlaw20_EncoderStays.j0.eq_2, if_pos rfl]
  unfold bitloftlaw20_EncoderStays.f
  rw [alive20 (by decide), Option.bind_some]
  by_cases c : (bs.length : Int) > 100
  · rw [if_pos c]; exact skip
  rw [if_neg c, Probs_ok (by decide), Option.bind_some]
  by_cases d : prs ps bs.length = 0
  rotate_left
  · rw [if_neg d]; exact skip
  rw [if_pos d, Bool.not_true]
  obtain ⟨_, hb, hp⟩ := prs_zero d
  have run : encoder_Run.f 2199 ps bs = some (rund ps bs) := Runf_ok (by decide) ps bs
  have hr : rund ps bs = (ende (rn 0 4294967295 [] ps bs).1 (rn 0 4294967295 [] ps bs).2.2, 0) := if_pos d
  have new : encoder_New.f = some (0, 4294967295, []) := rfl
  rw [bitloftlaw20_EncoderStays.j0.eq_2, if_neg (by decide), run, hr, Option.bind_some, new, Option.bind_some]
  exact stays_l0 ps bs (by omega) hb hp ps.length 2199 0 0 4294967295 [] _ (by omega) (by omega) ok0 (by decide) (by decide) rfl
end Go.Proofs.Ytgapkifgddjijaa.Pure
