/- DecoderParts: a run is getting one bit after the other. -/
import Derived.Test.YtgapkifgddjijaaDecD
import Derived.Test.YtgapkifgddjijaaQDx4
import Derived.OpenShut
namespace Go.Proofs.Ytgapkifgddjijaa.Pure
open Go Go.RowKit Go.Proofs.Ytgapkifgddjijaa.QD Go.Proofs.Ytgapkifgddjijaa.Dec Go.Proofs.Ytgapkifgddjijaa.Enc Go.Proofs.YtgapkifgddjijaaW.PrintWords Go.Proofs.YtgapkifgddjijaaW.PrintLast Go.Proofs.YtgapkifgddjijaaW.PrintMore
theorem parts_l0 {l : List Int} (hl : Byts l) (ll : l.length ≤ 20000) (ps : List Int) (hn : ps.length ≤ 60) (hp : ∀ p ∈ ps, 0 ≤ p ∧ p ≤ 4095) (all : List Bool) (ha : all.length = ps.length) : ∀ (d k i : Nat) (x1 x2 n : Int), i + d = ps.length → d + 10 < k → Ok x1 x2 → x1 / 16777216 ≠ x2 / 16777216 → 0 ≤ n → n + 4 * d ≤ 10000 → x1 ≤ win l n → win l n ≤ x2 → drn l x1 x2 n (ps.drop i) = all.drop i →
    bitloftlaw21_DecoderParts.l0 k ps true all (i : Int) x1 x2 (win l n) l (n + 4) = some true := by
  intro d
  induction d with
  | zero =>
    intro k i x1 x2 n hi hk _ _ _ _ _ _ _
    obtain ⟨k, rfl⟩ : ∃ m, k = m + 1 := ⟨k - 1, by omega⟩
    rw [bitloftlaw21_DecoderParts.l0.eq_2, if_neg (by omega)]
  | succ d ih =>
    intro k i x1 x2 n hi hk h ne n0 n1 a b hd
    obtain ⟨k, rfl⟩ : ∃ m, k = m + 1 := ⟨k - 1, by omega⟩
    have hlt : i < ps.length := by omega
    have hlt' : i < all.length := by omega
    obtain ⟨p0, p1⟩ := hp ps[i] (List.getElem_mem hlt)
    obtain ⟨y1, y2, e, g, r, s, t, v, ok, ne', el⟩ := gtd_win hl ll h ne p0 p1 n0 (by omega) a b
    rw [List.drop_eq_getElem_cons hlt, List.drop_eq_getElem_cons hlt', drn, g []] at hd
    injection hd with hb hd
    have e' : rdOf false all (i : Int) = all[i] := by
      unfold rdOf
      rw [Int.toNat_natCast, List.getD_eq_getElem?_getD, List.getElem?_eq_getElem hlt']
      rfl
    have q : decoder_Get.f k x1 x2 (win l n) l (n + 4) ps[i] = some (gtd x1 x2 (win l n) l (n + 4) ps[i]) := Getf_ok hl (by omega) h.lo h.hi _ _ _
    rw [bitloftlaw21_DecoderParts.l0.eq_2, if_pos (by omega), if_pos (by omega), rd_get hlt, q, Option.bind_some, r, if_pos rfl, if_pos (by omega), e', hb, bne_self_eq_false, if_neg (by decide), IntWalk.wrap64_in _ (by omega), show (i : Int) + 1 = ((i + 1 : Nat) : Int) by omega]
    exact ih k (i + 1) y1 y2 (n + e.length) (by omega) (by omega) ok ne' (by omega) (by omega) s t hd
theorem parts_j0 {l : List Int} (hl : Byts l) (ps : List Int) (at_ : Int) : bitloftlaw21_DecoderParts.j0 2030 l ps at_ true true = some true := by
  rw [bitloftlaw21_DecoderParts.j0.eq_2, if_pos rfl]
theorem DecoderParts (l ps : List Int) (at_ : Int) (wl : ∀ n ∈ l, (Lit.int .u8 n).wf = true) (_ : ∀ n ∈ ps, (Lit.int .i64 n).wf = true) (_ : (Lit.int .i64 at_).wf = true) : ∃ k, bitloftlaw21_DecoderParts.f k l ps at_ = some true := by
  refine ⟨2030, ?_⟩
  have hl := byts_wf wl
  unfold bitloftlaw21_DecoderParts.f
  rw [alive21 (by decide), Option.bind_some]
  by_cases c : (l.length : Int) > 60
  · rw [if_pos c]; exact parts_j0 hl _ _
  rw [if_neg c]
  by_cases d : (ps.length : Int) > 60
  · rw [if_pos d]; exact parts_j0 hl _ _
  rw [if_neg d, Probs_ok (by decide), Option.bind_some]
  by_cases e : prs ps ps.length = 0
  rotate_left
  · rw [if_neg e]; exact parts_j0 hl _ _
  rw [if_pos e]
  by_cases f : at_ < 0
  · rw [if_pos f]; exact parts_j0 hl _ _
  rw [if_neg f]
  by_cases g : at_ > (ps.length : Int)
  · rw [if_pos g]; exact parts_j0 hl _ _
  rw [if_neg g, Bool.not_true]
  obtain ⟨_, hp⟩ := prs_self e
  have ha : ps.all prb = true := List.all_eq_true.2 (fun p h => (prb_iff p).2 (hp p h))
  obtain ⟨m, rfl⟩ : ∃ m : Nat, at_ = (m : Int) := ⟨at_.toNat, by omega⟩
  have hm : m ≤ ps.length := by omega
  have ha' : (ps.take m).all prb = true := List.all_eq_true.2 (fun p h => (prb_iff p).2 (hp p (List.mem_of_mem_take h)))
  have one : decoder_Run.f 2029 l ps = some (drn l 0 4294967295 0 ps, 0) := by
    have a : decoder_Run.f 2029 l ps = some (rdd l ps) := RunDf_ok hl (by decide) ps
    rw [a]
    unfold rdd
    rw [if_neg (by omega), if_neg (by omega), if_pos ha]
  have two : decoder_Run.f 2029 l (ps.take m) = some (drn l 0 4294967295 0 (ps.take m), 0) := by
    have a : decoder_Run.f 2029 l (ps.take m) = some (rdd l (ps.take m)) := RunDf_ok hl (by decide) (ps.take m)
    rw [a]
    unfold rdd
    rw [if_neg (by omega), if_neg (by rw [List.length_take]; omega), if_pos ha']
  have three : decoder_New.f 2029 l = some (0, 4294967295, win l 0, l, 4, 0) := by
    have a : decoder_New.f 2029 l = some (nwd l) := Newf_ok hl (by decide)
    rw [a]
    unfold nwd
    rw [if_neg (by omega)]
  have hdl := drn_length l ps 0 4294967295 0
  have hdl2 : ((drn l 0 4294967295 0 (ps.take m)).length : Int) = (m : Int) := by rw [drn_length, List.length_take]; omega
  obtain ⟨wa, wb⟩ := win_in hl (n := 0) (by omega)
  have fin : bitloftlaw21_DecoderParts.j1 2029 ps true (drn l 0 4294967295 0 ps) false 0 4294967295 (win l 0) l 4 = some true := by
    rw [bitloftlaw21_DecoderParts.j1.eq_2, if_neg (by decide)]
    exact parts_l0 hl (by omega) ps (by omega) hp _ hdl ps.length 2028 0 0 4294967295 0 (by omega) (by omega) ok0 (by decide) (by omega) (by omega) wa wb (by rw [List.drop_zero, List.drop_zero])
  rw [bitloftlaw21_DecoderParts.j0.eq_2, if_neg (by decide), one, Option.bind_some, if_pos (by omega), if_pos (by omega), Int.toNat_natCast, two, Option.bind_some, three, Option.bind_some, if_pos rfl, if_pos rfl, if_pos rfl, if_pos (by rw [hdl]), if_pos hdl2, if_pos (by rw [hdl]; omega), drn_take, Same_ok _ (by rw [List.length_take, hdl]; omega) (by rw [List.length_take, hdl]; omega), Option.bind_some, Bool.not_true]
  exact fin
end Go.Proofs.Ytgapkifgddjijaa.Pure
