/- The decoder's laws: the reference's parts that were printed do what the arithmetic says. -/
import Derived.Test.YtgapkifgddjijaaDecD
import Derived.Test.YtgapkifgddjijaaQDx5
import Derived.Test.YtgapkifgddjijaaQDx6
namespace Go.Proofs.Ytgapkifgddjijaa.Dec
open Go Go.RowKit Go.Proofs.Ytgapkifgddjijaa.Enc Go.Proofs.YtgapkifgddjijaaW.PrintWords Go.Proofs.YtgapkifgddjijaaW.PrintLast Go.Proofs.YtgapkifgddjijaaW.PrintMore
theorem New_ok {l : List Int} (hl : Byts l) {k : Nat} (hk : 5 ≤ k) : QD.bitloftref21_New.f k l = some (nwd l) := by
  unfold QD.bitloftref21_New.f nwd
  by_cases c : 20000 < l.length
  · rw [if_pos (by omega), if_pos c]
  rw [if_neg (by omega), if_neg c]
  obtain ⟨k, rfl⟩ : ∃ m, k = m + 5 := ⟨k - 5, by omega⟩
  obtain ⟨a, b⟩ := byt_in hl (t := 0) (by omega)
  obtain ⟨c, d⟩ := byt_in hl (t := 1) (by omega)
  obtain ⟨e, f⟩ := byt_in hl (t := 2) (by omega)
  obtain ⟨g, h⟩ := byt_in hl (t := 3) (by omega)
  rw [QD.bitloftref21_New.l0.eq_2, if_pos (by omega), ByteD_ok l (by omega), Option.bind_some, wr1 (by omega) (by omega)]
  rw [QD.bitloftref21_New.l0.eq_2, if_pos (by omega), ByteD_ok l (by omega), Option.bind_some, wr1 (by omega) (by omega), show (0 : Int) + 1 = 1 by rfl]
  rw [QD.bitloftref21_New.l0.eq_2, if_pos (by omega), ByteD_ok l (by omega), Option.bind_some, wr1 (by omega) (by omega), show (1 : Int) + 1 = 2 by rfl]
  rw [QD.bitloftref21_New.l0.eq_2, if_pos (by omega), ByteD_ok l (by omega), Option.bind_some, wr1 (by omega) (by omega), show (2 : Int) + 1 = 3 by rfl]
  rw [QD.bitloftref21_New.l0.eq_2, if_neg (by omega), Option.bind_some, if_pos (by rw [List.length_nil]; omega), List.nil_append]
  have e : ((((0 * 256 + byt l 0) % 4294967296 * 256 + byt l 1) % 4294967296 * 256 + byt l 2) % 4294967296 * 256 + byt l 3) % 4294967296 = win l 0 := by
    unfold win
    rw [show (0 : Int) + 1 = 1 by rfl, show (0 : Int) + 2 = 2 by rfl, show (0 : Int) + 3 = 3 by rfl]
    omega
  rw [e]
theorem Did_l0 {l : List Int} (hl : Byts l) (bt : Bool) : ∀ (f : Nat), f ≤ 4 → ∀ (k : Nat) (x1 x2 x t : Int), f < k → In f x1 x2 → 0 ≤ t → t + f < 4611686018427387904 → QD.bitloftref21_Did.l0 k bt x1 x2 x l t = some ((nrd f x1 x2 x l t).1, (nrd f x1 x2 x l t).2.1, (nrd f x1 x2 x l t).2.2.1, l, (nrd f x1 x2 x l t).2.2.2, bt) := by
  intro f
  induction f with
  | zero =>
    intro _ k x1 x2 x t hk h _ _
    obtain ⟨k, rfl⟩ : ∃ m, k = m + 1 := ⟨k - 1, by omega⟩
    have n := h.apart
    obtain ⟨a, b, c⟩ := h
    rw [wd_zero] at c
    rw [QD.bitloftref21_Did.l0.eq_2, td (by omega), td (by omega), if_neg (by omega), nrd]
  | succ f ih =>
    intro hf k x1 x2 x t hk h t0 t1
    obtain ⟨k, rfl⟩ : ∃ m, k = m + 1 := ⟨k - 1, by omega⟩
    have a := h.lo
    have b := h.hi
    have c := h.size
    have d := wd_pos (f + 1)
    rw [QD.bitloftref21_Did.l0.eq_2, nrd, td (by omega), td (by omega)]
    by_cases e : x1 / 16777216 = x2 / 16777216
    · obtain ⟨h', _, b0, b1⟩ := h.step (by omega) e
      obtain ⟨c0, c1⟩ := byt_in hl t0
      rw [if_pos (by omega), if_pos e, ByteD_ok l t0, Option.bind_some, show (x * 256 + byt l t) % 4294967296 = x * 256 % 4294967296 + byt l t by omega, wr1 t0 (by omega)]
      exact ih (by omega) k _ _ _ _ (by omega) h' (by omega) (by omega)
    · rw [if_neg (by omega), if_neg e]
theorem MiddleD_ok {x1 x2 p : Int} (h : Ok x1 x2) (h0 : 0 ≤ p) (h1 : p ≤ 4095) : QD.bitloftref20_Middle.f x1 x2 p = some (md x1 x2 p) := Middle_ok h h0 h1
theorem Did_ok {l : List Int} (hl : Byts l) {k : Nat} (hk : 6 ≤ k) {x1 x2 p : Int} (h : Ok x1 x2) (h0 : 0 ≤ p) (h1 : p ≤ 4095) (x : Int) {t : Int} (t0 : 0 ≤ t) (t1 : t + 4 < 4611686018427387904) :
    QD.bitloftref21_Did.f k x1 x2 x l t p = some ((dst x1 x2 x l t p).1, (dst x1 x2 x l t p).2.1, (dst x1 x2 x l t p).2.2.1, l, (dst x1 x2 x l t p).2.2.2.1, (dst x1 x2 x l t p).2.2.2.2) := by
  obtain ⟨i1, i0⟩ := stp_in h h0 h1
  have ml := md_lt h.lt h1
  have mg := md_le h.lt h0
  have c := h.hi
  have d := h.lo
  obtain ⟨k, rfl⟩ : ∃ m, k = m + 1 := ⟨k - 1, by omega⟩
  unfold QD.bitloftref21_Did.f dst
  rw [MiddleD_ok h h0 h1, Option.bind_some]
  by_cases e : x ≤ md x1 x2 p
  · rw [if_pos e, if_pos e, decide_eq_true e, QD.bitloftref21_Did.j0.eq_2, Did_l0 hl true 4 (by omega) k _ _ _ _ (by omega) i1 t0 (by omega)]
  · rw [if_neg e, if_neg e, decide_eq_false e, QD.bitloftref21_Did.j0.eq_2, Int.emod_eq_of_lt (by omega) (by omega), Did_l0 hl false 4 (by omega) k _ _ _ _ (by omega) i0 t0 (by omega)]
theorem Run_l0 {l : List Int} (hl : Byts l) (ps : List Int) (hn : ps.length ≤ 2000) (hp : ∀ p ∈ ps, 0 ≤ p ∧ p ≤ 4095) : ∀ (d k i : Nat) (x1 x2 n : Int) (acc : List Bool), i + d = ps.length → d + 10 < k → Ok x1 x2 → 0 ≤ n → x1 ≤ win l n → win l n ≤ x2 → n + 4 * d + 8 < 4611686018427387904 → acc.length + d < 140737488355328 →
    QD.bitloftref21_Run.l0 k ps acc (i : Int) x1 x2 (win l n) l (n + 4) = some (acc ++ drn l x1 x2 n (ps.drop i), 0) := by
  intro d
  induction d with
  | zero =>
    intro k i x1 x2 n acc hi hk _ _ _ _ _ _
    obtain ⟨k, rfl⟩ : ∃ m, k = m + 1 := ⟨k - 1, by omega⟩
    rw [QD.bitloftref21_Run.l0.eq_2, if_neg (by omega), List.drop_eq_nil_of_le (by omega), drn, List.append_nil]
  | succ d ih =>
    intro k i x1 x2 n acc hi hk h n0 a b hnn hacc
    obtain ⟨k, rfl⟩ : ∃ m, k = m + 1 := ⟨k - 1, by omega⟩
    have hlt : i < ps.length := by omega
    obtain ⟨p0, p1⟩ := hp ps[i] (List.getElem_mem hlt)
    obtain ⟨y1, y2, e, g, r, s, t, v, ok, ne, el⟩ := dst_win hl h p0 p1 n0 a b
    rw [QD.bitloftref21_Run.l0.eq_2, if_pos (by omega), if_pos (by omega), rd_get hlt, Did_ok hl (by omega) h p0 p1 _ (by omega) (by omega), Option.bind_some, if_pos (by omega), IntWalk.wrap64_in _ (by omega), show (i : Int) + 1 = ((i + 1 : Nat) : Int) by omega, r, List.drop_eq_getElem_cons hlt, drn, g []]
    have := ih k (i + 1) y1 y2 (n + e.length) (acc ++ [decide (win l n ≤ md x1 x2 ps[i])]) (by omega) (by omega) ok (by omega) s t (by omega) (by rw [List.length_append, List.length_singleton]; omega)
    rw [List.append_assoc] at this
    exact this
theorem Run_ok {l : List Int} (hl : Byts l) {k : Nat} (hk : 2020 ≤ k) (ps : List Int) : QD.bitloftref21_Run.f k l ps = some (rdd l ps) := by
  unfold QD.bitloftref21_Run.f rdd
  rw [New_ok hl (by omega), Option.bind_some]
  unfold nwd
  by_cases c : 20000 < l.length
  · rw [if_pos c, if_pos c, if_neg (by decide)]
  rw [if_neg c, if_neg c, if_pos rfl, Probs_ok (by omega), Option.bind_some, Option.bind_some]
  by_cases d : 2000 < ps.length
  · have e : prs ps ps.length = 4 := if_pos d
    rw [e, if_neg (by decide), if_pos d]
  rw [if_neg d]
  by_cases e : ps.all prb = true
  · have f : prs ps ps.length = 0 := by unfold prs; rw [if_neg d, if_pos rfl, if_pos e]
    obtain ⟨a, b⟩ := win_in hl (n := 0) (by omega)
    rw [f, if_pos rfl, if_pos e]
    exact Run_l0 hl ps (by omega) (all_in e) ps.length k 0 0 4294967295 0 [] (by omega) (by omega) ok0 (by omega) a b (by omega) (by rw [List.length_nil]; omega)
  · have f : prs ps ps.length = 2 := by unfold prs; rw [if_neg d, if_pos rfl, if_neg e]
    rw [f, if_neg (by decide), if_neg e]
end Go.Proofs.Ytgapkifgddjijaa.Dec
