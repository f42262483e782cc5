/- DecoderRange: the ranges are those of the encoder, and what is given out is what was read. -/
import Derived.Test.YtgapkifgddjijaaDecD
import Derived.Test.YtgapkifgddjijaaQDx1
import Derived.Test.YtgapkifgddjijaaQDx3
import Derived.OpenShut
namespace Go.Proofs.Ytgapkifgddjijaa.Pure
open Go Go.RowKit Go.Proofs.Ytgapkifgddjijaa.QD Go.Proofs.Ytgapkifgddjijaa.Dec Go.Proofs.Ytgapkifgddjijaa.Enc Go.Proofs.YtgapkifgddjijaaW.PrintWords Go.Proofs.YtgapkifgddjijaaW.PrintLast Go.Proofs.YtgapkifgddjijaaW.PrintMore
theorem byts_get (l : List Int) : ∀ (m i : Nat) (n : Int), i < m → (byts l n m)[i]? = some (byt l (n + i)) := by
  intro m
  induction m with
  | zero => intro i n h; omega
  | succ m ih =>
    intro i n h
    cases i with
    | zero => rw [byts, List.getElem?_cons_zero, Int.natCast_zero, Int.add_zero]
    | succ i => rw [byts, List.getElem?_cons_succ, ih i (n + 1) (by omega), show n + 1 + (i : Int) = n + ((i + 1 : Nat) : Int) by omega]
theorem range_l1 {l : List Int} (x1 x2 : Int) (m : Nat) (hm : m ≤ 10000) : ∀ (d k i : Nat), i + d = m → d < k → bitloftlaw21_DecoderRange.l1 k l true (i : Int) x1 x2 (byts l 0 m) = some true := by
  intro d
  induction d with
  | zero =>
    intro k i hi hk
    obtain ⟨k, rfl⟩ : ∃ m, k = m + 1 := ⟨k - 1, by omega⟩
    rw [bitloftlaw21_DecoderRange.l1.eq_2, if_neg (by rw [byts_length]; omega)]
  | succ d ih =>
    intro k i hi hk
    obtain ⟨k, rfl⟩ : ∃ m, k = m + 1 := ⟨k - 1, by omega⟩
    have e : rd (byts l 0 m) (i : Int) = byt l (i : Int) := by
      unfold rd
      rw [Int.toNat_natCast, List.getD_eq_getElem?_getD, byts_get l m i 0 (by omega), Int.zero_add]
      rfl
    rw [bitloftlaw21_DecoderRange.l1.eq_2, if_pos (by rw [byts_length]; omega), if_pos (by omega), ByteD_ok l (by omega), Option.bind_some, if_pos e, IntWalk.wrap64_in _ (by omega), show (i : Int) + 1 = ((i + 1 : Nat) : Int) by omega]
    exact ih k (i + 1) (by omega) (by omega)
theorem range_l0 {l : List Int} (hl : Byts l) (ll : l.length ≤ 60) (ps : List Int) (hn : ps.length ≤ 60) (hp : ∀ p ∈ ps, 0 ≤ p ∧ p ≤ 4095) : ∀ (d k i : Nat) (x1 x2 : Int) (n : Nat), i + d = ps.length → d + 320 < k → Ok x1 x2 → x1 / 16777216 ≠ x2 / 16777216 → n + 4 * d ≤ 300 → x1 ≤ win l n → win l n ≤ x2 →
    bitloftlaw21_DecoderRange.l0 k l ps true (i : Int) x1 x2 (win l n) l ((n : Int) + 4) x1 x2 (byts l 0 n) = some true := by
  intro d
  induction d with
  | zero =>
    intro k i x1 x2 n hi hk h ne n1 a b
    obtain ⟨k, rfl⟩ : ∃ m, k = m + 2 := ⟨k - 2, by omega⟩
    have o : ovd x1 x2 (win l n) l ((n : Int) + 4) = (wrap64 ((l.length : Int) - ((n : Int) + 4)), 0) := by
      unfold ovd
      rw [if_pos (chd_mk h.lt ne a b (by omega) (by omega) (by omega))]
    have e : (wrap64 ((l.length : Int) - ((n : Int) + 4)) != wrap64 (wrap64 ((l.length : Int) - ((byts l 0 n).length : Int)) - 4)) = false := by
      rw [byts_length, IntWalk.wrap64_in ((l.length : Int) - ((n : Int) + 4)) (by omega), IntWalk.wrap64_in ((l.length : Int) - (n : Int)) (by omega), IntWalk.wrap64_in _ (by omega), show (l.length : Int) - ((n : Int) + 4) = (l.length : Int) - (n : Int) - 4 by omega, bne_self_eq_false]
    rw [bitloftlaw21_DecoderRange.l0.eq_2, if_neg (by omega), Over_ok, Option.bind_some, o, if_pos rfl, e, bitloftlaw21_DecoderRange.j2.eq_2, if_neg (by decide)]
    exact range_l1 x1 x2 n (by omega) n k 0 (by omega) (by omega)
  | succ d ih =>
    intro k i x1 x2 n hi hk h ne n1 a b
    obtain ⟨k, rfl⟩ : ∃ m, k = m + 1 := ⟨k - 1, by omega⟩
    have hlt : i < ps.length := by omega
    obtain ⟨p0, p1⟩ := hp ps[i] (List.getElem_mem hlt)
    obtain ⟨y1, y2, e, g, r, s, t, v, ok, ne', el⟩ := gtd_win hl (by omega) h ne p0 p1 (by omega : (0 : Int) ≤ (n : Int)) (by omega) a b
    have n2 : n + e.length + 4 * d ≤ 300 := by clear g r s t v ok ne' ne h a b hl hp; omega
    have q : decoder_Get.f k x1 x2 (win l n) l ((n : Int) + 4) ps[i] = some (gtd x1 x2 (win l n) l ((n : Int) + 4) ps[i]) := Getf_ok hl (by omega) h.lo h.hi _ _ _
    have u : encoder_Put.f k x1 x2 (byts l 0 n) ps[i] (decide (win l n ≤ md x1 x2 ps[i])) = some (y1, y2, byts l 0 n ++ e, 0) := by
      have c : encoder_Put.f k x1 x2 (byts l 0 n) ps[i] (decide (win l n ≤ md x1 x2 ps[i])) = some (ptd x1 x2 (byts l 0 n) ps[i] (decide (win l n ≤ md x1 x2 ps[i]))) := Putf_ok (by omega) h.lo h.hi _ _ _
      rw [c]
      unfold ptd
      rw [if_pos (chk_mk h.lt ne (by rw [byts_length]; omega)), if_pos ((prb_iff _).2 ⟨p0, p1⟩), g, if_neg (by show ¬ ((byts l 0 n ++ e).length : Int) > 20000; rw [List.length_append, byts_length]; omega)]
    have be : byts l 0 n ++ e = byts l 0 (n + e.length) := by
      rw [byts_add, Int.zero_add, ← v]
    rw [bitloftlaw21_DecoderRange.l0.eq_2, if_pos (by omega), if_pos (by omega), rd_get hlt, q, Option.bind_some, r, u, Option.bind_some, if_pos rfl, if_pos rfl]
    obtain ⟨oa, ob, oc⟩ := ok
    have ck : chd y1 y2 (win l ((n : Int) + e.length)) l ((n : Int) + e.length + 4) = 0 := chd_mk ob ne' s t (by omega) (by omega) (by omega)
    rw [Chd_ok (by omega) oa (by omega) (by omega) oc, Option.bind_some, if_pos ck, if_pos rfl, if_pos rfl]
    have w1 : (n : Int) + (e.length : Int) + 4 = wrap64 (((byts l 0 n ++ e).length : Int) + 4) := by
      rw [List.length_append, byts_length, IntWalk.wrap64_in _ (by omega)]
      omega
    rw [if_pos w1, IntWalk.wrap64_in _ (by omega), show (i : Int) + 1 = ((i + 1 : Nat) : Int) by omega, be]
    rw [← Int.natCast_add] at s t ⊢
    exact ih k (i + 1) y1 y2 (n + e.length) (by omega) (by omega) ⟨oa, ob, oc⟩ ne' n2 s t
theorem range_j0 (l ps : List Int) : bitloftlaw21_DecoderRange.j0 2030 l ps true true = some true := by
  rw [bitloftlaw21_DecoderRange.j0.eq_2, if_pos rfl]
theorem DecoderRange (l ps : List Int) (wl : ∀ n ∈ l, (Lit.int .u8 n).wf = true) (_ : ∀ n ∈ ps, (Lit.int .i64 n).wf = true) : ∃ k, bitloftlaw21_DecoderRange.f k l ps = some true := by
  refine ⟨2030, ?_⟩
  have hl := byts_wf wl
  unfold bitloftlaw21_DecoderRange.f
  rw [alive21 (by decide), Option.bind_some]
  by_cases c : (l.length : Int) > 60
  · rw [if_pos c]; exact range_j0 _ _
  rw [if_neg c]
  by_cases d : (ps.length : Int) > 60
  · rw [if_pos d]; exact range_j0 _ _
  rw [if_neg d, Probs_ok (by decide), Option.bind_some]
  by_cases e : prs ps ps.length = 0
  rotate_left
  · rw [if_neg e]; exact range_j0 _ _
  rw [if_pos e, Bool.not_true]
  obtain ⟨_, hp⟩ := prs_self e
  have three : decoder_New.f 2029 l = some (0, 4294967295, win l 0, l, 4, 0) := by
    have a : decoder_New.f 2029 l = some (nwd l) := Newf_ok hl (by decide)
    rw [a]
    unfold nwd
    rw [if_neg (by omega)]
  have four : encoder_New.f = some (0, 4294967295, ([] : List Int)) := rfl
  obtain ⟨wa, wb⟩ := win_in hl (n := 0) (by omega)
  rw [bitloftlaw21_DecoderRange.j0.eq_2, if_neg (by decide), three, Option.bind_some, four, Option.bind_some, if_pos rfl]
  exact range_l0 hl (by omega) ps (by omega) hp ps.length 2029 0 0 4294967295 0 (by omega) (by omega) ok0 (by decide) (by omega) wa wb
end Go.Proofs.Ytgapkifgddjijaa.Pure
