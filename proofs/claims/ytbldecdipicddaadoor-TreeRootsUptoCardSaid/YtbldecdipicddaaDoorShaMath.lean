/- SHA-1's arithmetic: both ways of doing a block agree. -/
import Derived.Test.YtbldecdipicddaaDoorHDone
import Derived.Laws.BitsLemmas
set_option linter.unusedSimpArgs false
set_option linter.unusedVariables false
namespace Go.Proofs.YtbldecdipicddaaDoor.Hand
open Go Go.RowKit
def B (a : Int) : BitVec 32 := BitVec.ofInt 32 a
theorem B_toNat (v : BitVec 32) : B (v.toNat : Int) = v := by
  unfold B
  rw [BitVec.ofInt_natCast, BitVec.ofNat_toNat]
  simp
theorem wrap_bv (v : BitVec 32) : IntKind.u32.wrap (v.toNat : Int) = (v.toNat : Int) := by
  rw [IntKind.wrap_u32]
  have := v.isLt
  omega
theorem and_bv (a b : Int) : bits .and .u32 a b = ((B a &&& B b).toNat : Int) := wrap_bv (B a &&& B b)
theorem or_bv (a b : Int) : bits .or .u32 a b = ((B a ||| B b).toNat : Int) := wrap_bv (B a ||| B b)
theorem xor_bv (a b : Int) : bits .xor .u32 a b = ((B a ^^^ B b).toNat : Int) := wrap_bv (B a ^^^ B b)
theorem max_bv : B IntKind.u32.max = BitVec.allOnes 32 := by decide
theorem ch_bv (b c d : BitVec 32) : d ^^^ (b &&& (c ^^^ d)) = (b &&& c) ||| ((BitVec.allOnes 32 ^^^ b) &&& d) := by
  apply BitVec.eq_of_getLsbD_eq
  intro i hi
  simp only [BitVec.getLsbD_xor, BitVec.getLsbD_and, BitVec.getLsbD_or, BitVec.getLsbD_allOnes, hi, decide_true, Bool.true_and]
  cases b.getLsbD i <;> cases c.getLsbD i <;> cases d.getLsbD i <;> rfl
theorem maj_bv (b c d : BitVec 32) : (b &&& c) ||| (d &&& (b ||| c)) = ((b &&& c) ||| (b &&& d)) ||| (c &&& d) := by
  apply BitVec.eq_of_getLsbD_eq
  intro i hi
  simp only [BitVec.getLsbD_and, BitVec.getLsbD_or]
  cases b.getLsbD i <;> cases c.getLsbD i <;> cases d.getLsbD i <;> rfl
theorem mix_part (t : Nat) (ht : t < 80) (b c d : Int) : mixv ((t : Int) / 20) b c d = partv t b c d := by
  unfold mixv partv
  by_cases h1 : t < 20
  · rw [if_pos (by omega), if_pos h1]
    simp only [xor_bv, or_bv, and_bv, B_toNat, max_bv, ch_bv]
  by_cases h2 : t < 40
  · rw [if_neg (by omega), if_neg (by omega), if_neg h1, if_pos h2]
  by_cases h3 : t < 60
  · rw [if_neg (by omega), if_pos (by omega), if_neg h1, if_neg h2, if_pos h3]
    simp only [xor_bv, or_bv, and_bv, B_toNat, maj_bv]
  · rw [if_neg (by omega), if_neg (by omega), if_neg h1, if_neg h2, if_neg h3]
theorem qua_part (t : Nat) (ht : t < 80) : qua (t / 20) = partk t := by
  unfold partk
  by_cases h1 : t < 20
  · rw [if_pos h1, show t / 20 = 0 by omega]; rfl
  by_cases h2 : t < 40
  · rw [if_neg h1, if_pos h2, show t / 20 = 1 by omega]; rfl
  by_cases h3 : t < 60
  · rw [if_neg h1, if_neg h2, if_pos h3, show t / 20 = 2 by omega]; rfl
  · rw [if_neg h1, if_neg h2, if_neg h3, show t / 20 = 3 by omega]; rfl
/-- A word, when so many of its bytes are read. -/
def pw (l : List Int) (j : Nat) : Nat → Int
  | 0 => 0
  | c + 1 => Go.bits .or .u32 (pw l j c * 256 % 4294967296) (l.getD (4 * j + c) 0 % 4294967296)
theorem ldw_pw (l : List Int) : ∀ i, i ≤ 64 → ∀ j, j < 16 → (ldw l i).getD j 0 = pw l j (min 4 (i - 4 * j))
  | 0, _, j, hj => by
    rw [show min 4 (0 - 4 * j) = 0 by omega, ldw, pw, List.getD_eq_getElem?_getD, List.getElem?_replicate]
    split <;> rfl
  | i + 1, hi, j, hj => by
    have ih := ldw_pw l i (by omega)
    rw [ldw, List.getD_eq_getElem?_getD, List.getElem?_set]
    by_cases h : i / 4 = j
    · rw [if_pos h, if_pos (by rw [ldw_length]; omega), Option.getD_some, h, ih j hj, show min 4 (i - 4 * j) = i - 4 * j by omega, show min 4 (i + 1 - 4 * j) = (i - 4 * j) + 1 by omega, pw, show 4 * j + (i - 4 * j) = i by omega]
    · rw [if_neg h, ← List.getD_eq_getElem?_getD, ih j hj, show min 4 (i + 1 - 4 * j) = min 4 (i - 4 * j) by omega]
theorem or_add {x y : Int} (hx : 0 ≤ x) (hx2 : x % 256 = 0) (hx3 : x < 4294967296) (hy : 0 ≤ y) (hy2 : y < 256) : Go.bits .or .u32 x y = x + y :=
  bits_join .u32 32 (by decide) (fun n h0 h1 => by rw [IntKind.wrap_u32]; omega) 8 x y hx (by omega) (by omega) hy (by omega) (by omega)
theorem pw_word (l : List Int) (j : Nat) (h0 : 0 ≤ l.getD (4 * j) 0 ∧ l.getD (4 * j) 0 < 256) (h1 : 0 ≤ l.getD (4 * j + 1) 0 ∧ l.getD (4 * j + 1) 0 < 256) (h2 : 0 ≤ l.getD (4 * j + 2) 0 ∧ l.getD (4 * j + 2) 0 < 256) (h3 : 0 ≤ l.getD (4 * j + 3) 0 ∧ l.getD (4 * j + 3) 0 < 256) : pw l j 4 = word l j := by
  unfold word
  simp only [pw, Nat.add_zero]
  generalize l.getD (4 * j) 0 = b0 at *
  generalize l.getD (4 * j + 1) 0 = b1 at *
  generalize l.getD (4 * j + 2) 0 = b2 at *
  generalize l.getD (4 * j + 3) 0 = b3 at *
  simp only [IntKind.wrap_u32]
  rw [or_add (x := 0 * 256 % 4294967296) (by omega) (by omega) (by omega) (by omega) (by omega)]
  rw [or_add (x := (0 * 256 % 4294967296 + b0 % 4294967296) * 256 % 4294967296) (by omega) (by omega) (by omega) (by omega) (by omega)]
  rw [or_add (x := ((0 * 256 % 4294967296 + b0 % 4294967296) * 256 % 4294967296 + b1 % 4294967296) * 256 % 4294967296) (by omega) (by omega) (by omega) (by omega) (by omega)]
  rw [or_add (by omega) (by omega) (by omega) (by omega) (by omega)]
  omega
theorem wd_getD (l : List Int) : ∀ n j, j < n → (wd l n).getD j 0 = word l j
  | 0, j, h => absurd h (by omega)
  | n + 1, j, h => by
    rw [wd, List.getD_eq_getElem?_getD]
    by_cases hj : j < n
    · rw [List.getElem?_append_left (by rw [wd_length]; exact hj), ← List.getD_eq_getElem?_getD, wd_getD l n j hj]
    · obtain rfl : j = n := by omega
      rw [List.getElem?_append_right (by rw [wd_length]; exact Nat.le_refl _), wd_length]
      simp
theorem wx_stay (l : List Int) (k i : Nat) (h : i < 16 + k) : ∀ j, (wx l (k + j)).getD i 0 = (wx l k).getD i 0
  | 0 => rfl
  | j + 1 => by
    rw [← Nat.add_assoc, wx, List.getD_eq_getElem?_getD, List.getElem?_append_left (by rw [wx_length]; omega), ← List.getD_eq_getElem?_getD, wx_stay l k i h j]
def Wt (l : List Int) (t : Nat) : Int := (wx l 64).getD t 0
theorem Wt_stay (l : List Int) (k i : Nat) (hk : k ≤ 64) (h : i < 16 + k) : (wx l k).getD i 0 = Wt l i := by
  have := wx_stay l k i h (64 - k)
  rw [show k + (64 - k) = 64 by omega] at this
  exact this.symm
theorem Wt_rec (l : List Int) (t : Nat) (h : 16 ≤ t) (h2 : t < 80) : Wt l t = rot 1 (Go.bits .xor .u32 (Go.bits .xor .u32 (Go.bits .xor .u32 (Wt l (t - 3)) (Wt l (t - 8))) (Wt l (t - 14))) (Wt l (t - 16))) := by
  rw [← Wt_stay l (t - 16 + 1) t (by omega) (by omega), wx, List.getD_eq_getElem?_getD, List.getElem?_append_right (by rw [wx_length]; omega), wx_length, show t - (16 + (t - 16)) = 0 by omega]
  simp only [List.getElem?_cons_zero, Option.getD_some]
  rw [Wt_stay l (t - 16) _ (by omega) (by omega), Wt_stay l (t - 16) _ (by omega) (by omega), Wt_stay l (t - 16) _ (by omega) (by omega), Wt_stay l (t - 16) _ (by omega) (by omega), show t - 16 + 13 = t - 3 by omega, show t - 16 + 8 = t - 8 by omega, show t - 16 + 2 = t - 14 by omega]
def InvW (l : List Int) (t : Nat) (ws : List Int) : Prop := ws.length = 16 ∧ ∀ i, i < max t 16 → max t 16 ≤ i + 16 → ws.getD (i % 16) 0 = Wt l i
theorem InvW_step (l : List Int) (t : Nat) (ht : t < 80) (ws : List Int) (h : InvW l t ws) : InvW l (t + 1) (wnext t ws) := by
  obtain ⟨hl, hi⟩ := h
  refine ⟨(wnext_length t ws).trans hl, ?_⟩
  intro i h1 h2
  unfold wnext
  by_cases h16 : 16 ≤ t
  · rw [if_pos h16, List.getD_eq_getElem?_getD, List.getElem?_set]
    by_cases he : i = t
    · subst he
      rw [if_pos rfl, if_pos (by rw [hl]; omega), Option.getD_some, Wt_rec l i h16 ht]
      have e1 := hi (i - 3) (by omega) (by omega)
      have e2 := hi (i - 8) (by omega) (by omega)
      have e3 := hi (i - 14) (by omega) (by omega)
      have e4 := hi (i - 16) (by omega) (by omega)
      rw [show (i - 3) % 16 = (i + 13) % 16 by omega] at e1
      rw [show (i - 8) % 16 = (i + 8) % 16 by omega] at e2
      rw [show (i - 14) % 16 = (i + 2) % 16 by omega] at e3
      rw [show (i - 16) % 16 = i % 16 by omega] at e4
      rw [e1, e2, e3, e4]
    · rw [if_neg (by omega), ← List.getD_eq_getElem?_getD]
      exact hi i (by omega) (by omega)
  · rw [if_neg h16]
    exact hi i (by omega) (by omega)
theorem rnd_rs (h0 h1 h2 h3 h4 : Int) (l ws0 : List Int) (hw : InvW l 0 ws0) : ∀ t, t ≤ 80 → (rnd h0 h1 h2 h3 h4 ws0 t).1 = rs h0 h1 h2 h3 h4 l t ∧ InvW l t (rnd h0 h1 h2 h3 h4 ws0 t).2
  | 0, _ => ⟨by rw [rnd, rs], by rw [rnd]; exact hw⟩
  | t + 1, ht => by
    obtain ⟨ih1, ih2⟩ := rnd_rs h0 h1 h2 h3 h4 l ws0 hw t (by omega)
    rw [rnd, rs]
    generalize rnd h0 h1 h2 h3 h4 ws0 t = s at ih1 ih2
    generalize rs h0 h1 h2 h3 h4 l t = r at ih1
    obtain ⟨⟨a, b, c, d, e⟩, ws⟩ := s
    subst ih1
    have hn := InvW_step l t (by omega) ws ih2
    refine ⟨?_, hn⟩
    have hx := hn.2 t (by omega) (by omega)
    simp only [stp, rsn, hx, mix_part t (by omega), qua_part t (by omega), IntKind.wrap_u32]
    rfl
theorem InvW_0 (l : List Int) (hl : 64 ≤ l.length) (hb : ∀ z ∈ l, 0 ≤ z ∧ z < 256) : InvW l 0 (ldw l 64) := by
  have hg : ∀ i, i < 64 → 0 ≤ l.getD i 0 ∧ l.getD i 0 < 256 := by
    intro i hi
    rw [List.getD_eq_getElem?_getD, List.getElem?_eq_getElem (by omega), Option.getD_some]
    exact hb _ (List.getElem_mem _)
  refine ⟨ldw_length l 64, ?_⟩
  intro i h1 _
  rw [show i % 16 = i by omega, ldw_pw l 64 (Nat.le_refl _) i (by omega), show min 4 (64 - 4 * i) = 4 by omega, pw_word l i (hg _ (by omega)) (hg _ (by omega)) (hg _ (by omega)) (hg _ (by omega)), ← Wt_stay l 0 i (by omega) (by omega), wx, wd_getD l 16 i (by omega)]
theorem do_done (h0 h1 h2 h3 h4 : Int) (l : List Int) (hl : 64 ≤ l.length) (hb : ∀ z ∈ l, 0 ≤ z ∧ z < 256) : doF h0 h1 h2 h3 h4 l = doneF h0 h1 h2 h3 h4 l := by
  unfold doF doneF
  rw [(rnd_rs h0 h1 h2 h3 h4 l (ldw l 64) (InvW_0 l hl hb) 80 (Nat.le_refl _)).1]
  simp only [IntKind.wrap_u32]
end Go.Proofs.YtbldecdipicddaaDoor.Hand
