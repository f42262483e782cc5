/- The decoder's laws: the parts that were printed do what the arithmetic says. -/
import Derived.Test.YtgapkifgddjijaaDecBase
import Derived.Test.YtgapkifgddjijaaQDx1
import Derived.Test.YtgapkifgddjijaaQDx2
import Derived.OpenShut
namespace Go.Proofs.Ytgapkifgddjijaa.Dec
open Go Go.RowKit Go.Proofs.Ytgapkifgddjijaa.Enc Go.Proofs.YtgapkifgddjijaaW.PrintWords Go.Proofs.YtgapkifgddjijaaW.PrintLast Go.Proofs.YtgapkifgddjijaaW.PrintMore
theorem Chd_ok {k : Nat} (hk : 1 ≤ k) {x1 x2 : Int} (h0 : 0 ≤ x1) (h1 : x1 ≤ 4294967295) (h2 : 0 ≤ x2) (h3 : x2 ≤ 4294967295) (x : Int) (l : List Int) (t : Int) : QD.bitloftref21_Check.f k x1 x2 x l t = some (chd x1 x2 x l t) := by
  obtain ⟨k, rfl⟩ : ∃ m, k = m + 1 := ⟨k - 1, by omega⟩
  unfold QD.bitloftref21_Check.f chd
  rw [td h0, td h2, Int.emod_eq_of_lt (a := x1 / 16777216) (by omega) (by omega), Int.emod_eq_of_lt (a := x2 / 16777216) (by omega) (by omega)]
  by_cases a : x1 ≥ x2
  · rw [if_pos a, if_pos a, QD.bitloftref21_Check.j0.eq_2, if_pos rfl]
  rw [if_neg a, if_neg a]
  by_cases b : x1 / 16777216 = x2 / 16777216
  · rw [if_pos b, if_pos b, QD.bitloftref21_Check.j0.eq_2, if_pos rfl]
  rw [if_neg b, if_neg b]
  by_cases c : x < x1
  · rw [if_pos c, if_pos c, QD.bitloftref21_Check.j0.eq_2, if_pos rfl]
  rw [if_neg c, if_neg c, QD.bitloftref21_Check.j0.eq_2]
  by_cases d : x > x2
  · rw [decide_eq_true d, if_pos rfl, if_pos d]
  rw [decide_eq_false d, if_neg (by decide), if_neg d]
  repeat' (first | rfl | split)
theorem ByteD_ok (l : List Int) {t : Int} (h0 : 0 ≤ t) : QD.bitloftref21_Byte.f l t = some (byt l t) := ByteE_ok l h0
theorem ProbD_ok (p : Int) : QD.bitloftref20_Prob.f p = some (prb p) := Prob_ok p
theorem checkD_ok (x1 x2 x : Int) (l : List Int) (t : Int) : QD.decoder_Check.f x1 x2 x l t = some (chd x1 x2 x l t) := chdE_ok x1 x2 x l t
/-- How many bytes are left, and the error. -/
def ovd (x1 x2 x : Int) (l : List Int) (t : Int) : Int × Int := if chd x1 x2 x l t = 0 then (wrap64 ((l.length : Int) - t), 0) else (0, chd x1 x2 x l t)
theorem Over_ok (x1 x2 x : Int) (l : List Int) (t : Int) : QD.decoder_Over.f x1 x2 x l t = some (ovd x1 x2 x l t) := by
  unfold QD.decoder_Over.f ovd
  rw [checkD_ok, Option.bind_some]
  by_cases c : chd x1 x2 x l t = 0
  · rw [if_pos c, if_pos c]
  · rw [if_neg c, if_neg c]
theorem Probs_l0 (ps : List Int) (hn : ps.length ≤ 2000) : ∀ (d k : Nat) (i : Nat), i + d = ps.length → d < k →
    QD.bitloftref20_Probs.l0 k ps (ps.length : Int) (i : Int) = some (if (ps.drop i).all prb = true then 0 else 2) := by
  intro d
  induction d with
  | zero =>
    intro k i hi hk
    obtain ⟨k, rfl⟩ : ∃ m, k = m + 1 := ⟨k - 1, by omega⟩
    rw [QD.bitloftref20_Probs.l0.eq_2, if_neg (by omega), List.drop_eq_nil_of_le (by omega)]
    rfl
  | succ d ih =>
    intro k i hi hk
    obtain ⟨k, rfl⟩ : ∃ m, k = m + 1 := ⟨k - 1, by omega⟩
    have hl : i < ps.length := by omega
    have e : rd ps (i : Int) = ps[i] := by
      unfold rd
      rw [Int.toNat_natCast, List.getD_eq_getElem?_getD, List.getElem?_eq_getElem hl]
      rfl
    rw [QD.bitloftref20_Probs.l0.eq_2, if_pos (by omega), if_pos (by omega), if_pos (by omega), e, ProbD_ok, Option.bind_some, List.drop_eq_getElem_cons hl, List.all_cons]
    by_cases c : prb ps[i] = true
    · rw [if_pos c, c, Bool.true_and, IntWalk.wrap64_in _ (by omega), show (i : Int) + 1 = ((i + 1 : Nat) : Int) by omega]
      exact ih k (i + 1) (by omega) (by omega)
    · rw [if_neg c, Bool.eq_false_iff.2 c, Bool.false_and, if_neg (by decide)]
theorem Probs_ok {k : Nat} (hk : 2002 ≤ k) (ps : List Int) (n : Nat) : QD.bitloftref20_Probs.f k ps (n : Int) = some (prs ps n) := by
  unfold QD.bitloftref20_Probs.f prs
  by_cases c : 2000 < n
  · rw [if_pos (by omega), if_pos c]
  · rw [if_neg (by omega), if_neg c]
    by_cases d : ps.length = n
    · subst d
      rw [if_pos rfl, if_pos rfl]
      have := Probs_l0 ps (by omega) ps.length k 0 (by omega) (by omega)
      rw [List.drop_zero] at this
      exact this
    · rw [if_neg (by omega), if_neg d]
theorem prs_self {ps : List Int} (h : prs ps ps.length = 0) : ps.length ≤ 2000 ∧ ∀ p ∈ ps, 0 ≤ p ∧ p ≤ 4095 := ⟨(prs_zero h).1, (prs_zero h).2.2⟩
/-- A list of bits is the same as itself. -/
theorem Same_l0 (bs : List Bool) (hb : bs.length < 4611686018427387904) : ∀ (d k i : Nat), i + d = bs.length → d < k → QD.bitloftref14_Same.l0 k bs bs (i : Int) = some true := by
  intro d
  induction d with
  | zero =>
    intro k i hi hk
    obtain ⟨k, rfl⟩ : ∃ m, k = m + 1 := ⟨k - 1, by omega⟩
    rw [QD.bitloftref14_Same.l0.eq_2, if_neg (by omega)]
  | succ d ih =>
    intro k i hi hk
    obtain ⟨k, rfl⟩ : ∃ m, k = m + 1 := ⟨k - 1, by omega⟩
    rw [QD.bitloftref14_Same.l0.eq_2, if_pos (by omega), if_pos (by omega), if_pos (by omega), bne_self_eq_false, if_neg (by decide), IntWalk.wrap64_in _ (by omega), show (i : Int) + 1 = ((i + 1 : Nat) : Int) by omega]
    exact ih k (i + 1) (by omega) (by omega)
theorem Same_ok (bs : List Bool) (hb : bs.length < 4611686018427387904) {k : Nat} (hk : bs.length < k) : QD.bitloftref14_Same.f k bs bs = some true := by
  unfold QD.bitloftref14_Same.f
  rw [if_pos rfl]
  exact Same_l0 bs hb bs.length k 0 (by omega) hk
theorem alive21 {K : Nat} (hK : 20 ≤ K) : QD.bitloftlaw21_alive.f K = some true := at_rounds QD.bitloftlaw21_alive.mono hK (by decide +kernel)
theorem byts_wf {l : List Int} (h : ∀ x ∈ l, (Lit.int .u8 x).wf = true) : Byts l := fun n hn => by have := bounds_u8 (h n hn); omega
theorem rd_get {ps : List Int} {i : Nat} (hl : i < ps.length) : rd ps (i : Int) = ps[i] := by
  unfold rd
  rw [Int.toNat_natCast, List.getD_eq_getElem?_getD, List.getElem?_eq_getElem hl]
  rfl
/-- Getting a bit from a state of a run. -/
theorem gtd_win {l : List Int} (hl : Byts l) (ll : l.length ≤ 20000) {x1 x2 p : Int} (h : Ok x1 x2) (ne : x1 / 16777216 ≠ x2 / 16777216) (h0 : 0 ≤ p) (h1 : p ≤ 4095) {n : Int} (n0 : 0 ≤ n) (n1 : n ≤ 10000) (a : x1 ≤ win l n) (b : win l n ≤ x2) :
    ∃ y1 y2 e, (∀ o, stp x1 x2 p (decide (win l n ≤ md x1 x2 p)) o = (y1, y2, o ++ e)) ∧ gtd x1 x2 (win l n) l (n + 4) p = (y1, y2, win l (n + e.length), l, n + e.length + 4, decide (win l n ≤ md x1 x2 p), 0) ∧ y1 ≤ win l (n + e.length) ∧ win l (n + e.length) ≤ y2 ∧ e = byts l n e.length ∧ Ok y1 y2 ∧ y1 / 16777216 ≠ y2 / 16777216 ∧ e.length ≤ 4 := by
  obtain ⟨y1, y2, e, g, r, s, t, v, ok, ne', el⟩ := dst_win hl h h0 h1 n0 a b
  refine ⟨y1, y2, e, g, ?_, s, t, v, ok, ne', el⟩
  unfold gtd
  rw [if_pos (chd_mk h.lt ne a b ll (by omega) (by omega)), if_pos ((prb_iff p).2 ⟨h0, h1⟩), r, if_neg (by show ¬ (n + (e.length : Int) + 4 > 1000000); omega)]
end Go.Proofs.Ytgapkifgddjijaa.Dec
