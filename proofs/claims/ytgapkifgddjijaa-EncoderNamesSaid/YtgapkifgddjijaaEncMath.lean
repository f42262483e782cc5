/- The encoder's arithmetic, with no program in sight: the middle of a range, and how a range gives out its first bytes. -/
import Derived.Test.YtgapkifgddjijaaHandRun
import Derived.Laws.BitsLemmas
namespace Go.Proofs.Ytgapkifgddjijaa.Enc
open Go Go.RowKit

/-- The middle of a range, with a probability. -/
def md (x1 x2 p : Int) : Int := x1 + (x2 - x1) * p / 4096
theorem md_le {x1 x2 p : Int} (h : x1 < x2) (hp : 0 ≤ p) : x1 ≤ md x1 x2 p := by
  unfold md
  have a : 0 ≤ (x2 - x1) * p := Int.mul_nonneg (by omega) hp
  generalize (x2 - x1) * p = q at *
  omega
theorem md_lt {x1 x2 p : Int} (h : x1 < x2) (hp : p ≤ 4095) : md x1 x2 p < x2 := by
  unfold md
  have a : (x2 - x1) * p ≤ (x2 - x1) * 4095 := Int.mul_le_mul_of_nonneg_left hp (by omega)
  generalize (x2 - x1) * p = q at *
  omega
theorem md_mono {x1 x2 p q : Int} (h : x1 < x2) (hp : p ≤ q) : md x1 x2 p ≤ md x1 x2 q := by
  unfold md
  have a : (x2 - x1) * p ≤ (x2 - x1) * q := Int.mul_le_mul_of_nonneg_left hp (by omega)
  generalize (x2 - x1) * p = r at *
  generalize (x2 - x1) * q = s at *
  omega
theorem md_zero (x1 x2 : Int) : md x1 x2 0 = x1 := by
  unfold md
  rw [Int.mul_zero]
  omega
theorem md_split (x1 x2 p : Int) : md x1 x2 p = x1 + ((x2 - x1) / 4096 * p + (x2 - x1) % 4096 * p / 4096) := by
  unfold md
  generalize x2 - x1 = w
  have e : w * p = w % 4096 * p + w / 4096 * p * 4096 := by
    have h : w % 4096 + 4096 * (w / 4096) = w := by omega
    calc w * p = (w % 4096 + 4096 * (w / 4096)) * p := by rw [h]
      _ = w % 4096 * p + w / 4096 * p * 4096 := by rw [Int.add_mul, Int.mul_comm 4096, Int.mul_assoc, Int.mul_comm 4096, ← Int.mul_assoc]
  rw [e, Int.add_mul_ediv_right _ _ (by omega), Int.add_comm (w % 4096 * p / 4096)]

/-- How the first bytes are given out, at most so many. -/
def nrm : Nat → Int → Int → List Int → Int × Int × List Int
  | 0, x1, x2, o => (x1, x2, o)
  | f + 1, x1, x2, o => if x1 / 16777216 = x2 / 16777216 then nrm f (x1 * 256 % 4294967296) (x2 * 256 % 4294967296 + 255) (o ++ [x1 / 16777216]) else (x1, x2, o)
/-- The size that a range has at least, if so many bytes are given out at most. -/
def wd : Nat → Int
  | 0 => 4294967296
  | 1 => 16777216
  | 2 => 65536
  | 3 => 256
  | _ => 1
theorem wd_succ (f : Nat) (h : f ≤ 3) : wd (f + 1) * 256 = wd f := by
  rcases f with _ | _ | _ | _ | f <;> first | rfl | omega
theorem wd_zero : wd 0 = 4294967296 := rfl
theorem wd_four : wd 4 = 1 := rfl
theorem wd_pos (f : Nat) : 1 ≤ wd f := by
  rcases f with _ | _ | _ | _ | f <;> first | (show (1 : Int) ≤ 4294967296; omega) | (show (1 : Int) ≤ 16777216; omega) | (show (1 : Int) ≤ 65536; omega) | (show (1 : Int) ≤ 256; omega) | exact Int.le_refl _
structure In (f : Nat) (x1 x2 : Int) : Prop where
  lo : 0 ≤ x1
  hi : x2 ≤ 4294967295
  size : wd f ≤ x2 - x1 + 1
theorem In.step {f : Nat} (hf : f ≤ 3) {x1 x2 : Int} (h : In (f + 1) x1 x2) (e : x1 / 16777216 = x2 / 16777216) :
    In f (x1 * 256 % 4294967296) (x2 * 256 % 4294967296 + 255) ∧ (x2 * 256 % 4294967296 + 255) - x1 * 256 % 4294967296 + 1 = (x2 - x1 + 1) * 256 ∧ 0 ≤ x1 / 16777216 ∧ x1 / 16777216 < 256 := by
  obtain ⟨a, b, c⟩ := h
  have s := wd_succ f hf
  have w := wd_pos (f + 1)
  have d := wd_pos f
  refine ⟨⟨?_, ?_, ?_⟩, ?_, ?_, ?_⟩ <;> omega
theorem In.apart {x1 x2 : Int} (h : In 0 x1 x2) : x1 / 16777216 ≠ x2 / 16777216 := by
  obtain ⟨a, b, c⟩ := h
  rw [wd_zero] at c
  omega
/-- What giving out makes of a range: a range that begins with two bytes, and bytes behind those that were there. -/
theorem nrm_ok : ∀ (f : Nat), f ≤ 4 → ∀ (x1 x2 : Int), In f x1 x2 →
    ∃ y1 y2 e, (∀ o, nrm f x1 x2 o = (y1, y2, o ++ e)) ∧ 0 ≤ y1 ∧ y1 < y2 ∧ y2 ≤ 4294967295 ∧ y1 / 16777216 ≠ y2 / 16777216 ∧ e.length ≤ f ∧ (e = [] → y1 = x1 ∧ y2 = x2) ∧ y2 - y1 + 1 = (x2 - x1 + 1) * 256 ^ e.length ∧ ∀ b ∈ e, 0 ≤ b ∧ b < 256 := by
  intro f
  induction f with
  | zero =>
    intro _ x1 x2 h
    have n := h.apart
    obtain ⟨a, b, c⟩ := h
    rw [wd_zero] at c
    exact ⟨x1, x2, [], fun o => by rw [nrm, List.append_nil], a, by omega, b, n, Nat.le_refl _, fun _ => ⟨rfl, rfl⟩, by simp, fun b hb => by cases hb⟩
  | succ f ih =>
    intro hf x1 x2 h
    by_cases e : x1 / 16777216 = x2 / 16777216
    · obtain ⟨h', hs, b0, b1⟩ := h.step (by omega) e
      obtain ⟨y1, y2, t, g, l, m, u, n, k, _, sz, bs⟩ := ih (by omega) _ _ h'
      refine ⟨y1, y2, x1 / 16777216 :: t, fun o => ?_, l, m, u, n, ?_, (fun e => by cases e), ?_, ?_⟩
      · rw [nrm, if_pos e, g, List.append_assoc]
        rfl
      · rw [List.length_cons]; omega
      · rw [sz, hs, List.length_cons, Int.pow_succ, Int.mul_assoc, Int.mul_comm 256]
      · intro b hb
        rcases List.mem_cons.1 hb with rfl | hb
        · exact ⟨b0, b1⟩
        · exact bs b hb
    · obtain ⟨a, b, c⟩ := h
      have w := wd_pos (f + 1)
      refine ⟨x1, x2, [], fun o => by rw [nrm, if_neg e, List.append_nil], a, by omega, b, e, by simp, fun _ => ⟨rfl, rfl⟩, by simp, fun b hb => by cases hb⟩

/-- A range that is wider than one number, in 32 bits. -/
structure Ok (x1 x2 : Int) : Prop where
  lo : 0 ≤ x1
  lt : x1 < x2
  hi : x2 ≤ 4294967295
/-- What a bit makes of a range and of what was given out. -/
def stp (x1 x2 p : Int) (b : Bool) (o : List Int) : Int × Int × List Int :=
  if b = true then nrm 4 x1 (md x1 x2 p) o else nrm 4 (md x1 x2 p + 1) x2 o
theorem stp_in {x1 x2 p : Int} (h : Ok x1 x2) (h0 : 0 ≤ p) (h1 : p ≤ 4095) : In 4 x1 (md x1 x2 p) ∧ In 4 (md x1 x2 p + 1) x2 := by
  have a := md_le h.lt h0
  have b := md_lt h.lt h1
  obtain ⟨c, d, e⟩ := h
  refine ⟨⟨c, by omega, ?_⟩, ⟨by omega, e, ?_⟩⟩ <;> (rw [wd_four]; omega)
theorem stp_ok {x1 x2 p : Int} (h : Ok x1 x2) (h0 : 0 ≤ p) (h1 : p ≤ 4095) (b : Bool) :
    ∃ y1 y2 e, (∀ o, stp x1 x2 p b o = (y1, y2, o ++ e)) ∧ Ok y1 y2 ∧ y1 / 16777216 ≠ y2 / 16777216 ∧ e.length ≤ 4 ∧ (e = [] → (if b = true then y1 = x1 ∧ y2 = md x1 x2 p else y1 = md x1 x2 p + 1 ∧ y2 = x2)) ∧ y2 - y1 + 1 = (if b = true then md x1 x2 p - x1 + 1 else x2 - md x1 x2 p) * 256 ^ e.length ∧ ∀ c ∈ e, 0 ≤ c ∧ c < 256 := by
  obtain ⟨i1, i0⟩ := stp_in h h0 h1
  cases b
  · obtain ⟨y1, y2, e, g, l, m, u, n, k, z, s, bs⟩ := nrm_ok 4 (by omega) _ _ i0
    refine ⟨y1, y2, e, fun o => ?_, ⟨l, m, u⟩, n, k, fun he => ?_, ?_, bs⟩
    · rw [stp, if_neg (by decide)]; exact g o
    · rw [if_neg (by decide)]; exact z he
    · rw [if_neg (by decide), s, show x2 - (md x1 x2 p + 1) + 1 = x2 - md x1 x2 p by omega]
  · obtain ⟨y1, y2, e, g, l, m, u, n, k, z, s, bs⟩ := nrm_ok 4 (by omega) _ _ i1
    refine ⟨y1, y2, e, fun o => ?_, ⟨l, m, u⟩, n, k, fun he => ?_, ?_, bs⟩
    · rw [stp, if_pos rfl]; exact g o
    · rw [if_pos rfl]; exact z he
    · rw [if_pos rfl]; exact s
theorem or255 {x : Int} (h0 : 0 ≤ x) (h1 : x < 4294967296) (h2 : x % 256 = 0) : Go.bits .or .u32 x 255 = x + 255 :=
  bits_join .u32 32 (by decide) (fun n a b => by rw [IntKind.wrap_u32]; omega) 8 x 255 h0 h2 h1 (by decide) (by decide) (by decide)
theorem and4095 {x : Int} (h0 : 0 ≤ x) (h1 : x < 4294967296) : Go.bits .and .u32 x 4095 = x % 4096 :=
  bits_mask .u32 32 (by decide) (fun n a b => by rw [IntKind.wrap_u32]; omega) 12 (by decide) x h0 h1
/-- The encoder's own loop gives out the same. -/
theorem putl_nrm : ∀ (f : Nat), f ≤ 4 → ∀ (k : Nat) (x1 x2 : Int) (o : List Int), f < k → In f x1 x2 → o.length + f < 140737488355328 → Hand.putl k x1 x2 o = some (nrm f x1 x2 o) := by
  intro f
  induction f with
  | zero =>
    intro _ k x1 x2 o hk h _
    obtain ⟨k, rfl⟩ : ∃ m, k = m + 1 := ⟨k - 1, by omega⟩
    rw [Hand.putl, if_neg h.apart, nrm]
  | succ f ih =>
    intro hf k x1 x2 o hk h ho
    obtain ⟨k, rfl⟩ : ∃ m, k = m + 1 := ⟨k - 1, by omega⟩
    rw [Hand.putl, nrm]
    by_cases e : x1 / 16777216 = x2 / 16777216
    · obtain ⟨h', _, b0, b1⟩ := h.step (by omega) e
      have a := h.lo
      have b := h.hi
      have c := h.size
      have d := wd_pos (f + 1)
      rw [if_pos e, if_pos e, if_pos (by omega), or255 (by omega) (by omega) (by omega), show x2 / 16777216 % 256 = x1 / 16777216 by omega]
      exact ih (by omega) k _ _ _ (by omega) h' (by rw [List.length_append, List.length_singleton]; omega)
    · rw [if_neg e, if_neg e]
theorem splitf_ok {x1 x2 p : Int} (h : Ok x1 x2) (h0 : 0 ≤ p) (h1 : p ≤ 4095) : Hand.splitf x1 x2 p = md x1 x2 p := by
  have hm := md_le h.lt h0
  have hl := md_lt h.lt h1
  have hs := md_split x1 x2 p
  obtain ⟨a, b, c⟩ := h
  unfold Hand.splitf
  rw [Int.emod_eq_of_lt (a := x2 - x1) (by omega) (by omega), Int.emod_eq_of_lt (a := p) (by omega) (by omega), and4095 (by omega) (by omega)]
  have m0 : 0 ≤ (x2 - x1) / 4096 * p := Int.mul_nonneg (by omega) h0
  have n0 : 0 ≤ (x2 - x1) % 4096 * p := Int.mul_nonneg (by omega) h0
  have m1 : (x2 - x1) / 4096 * p ≤ (x2 - x1) / 4096 * 4095 := Int.mul_le_mul_of_nonneg_left h1 (by omega)
  have n1 : (x2 - x1) % 4096 * p ≤ (x2 - x1) % 4096 * 4095 := Int.mul_le_mul_of_nonneg_left h1 (by omega)
  generalize (x2 - x1) / 4096 * p = r at *
  generalize (x2 - x1) % 4096 * p = s at *
  generalize md x1 x2 p = m at *
  omega
theorem putf_stp {k : Nat} (hk : 5 ≤ k) {x1 x2 p : Int} (h : Ok x1 x2) (h0 : 0 ≤ p) (h1 : p ≤ 4095) (b : Bool) (o : List Int) (ho : o.length + 4 < 140737488355328) :
    Hand.putf k x1 x2 p b o = some (stp x1 x2 p b o) := by
  obtain ⟨i1, i0⟩ := stp_in h h0 h1
  have hl := md_lt h.lt h1
  have hm := md_le h.lt h0
  have c := h.hi
  have l := h.lo
  unfold Hand.putf stp
  rw [splitf_ok h h0 h1]
  cases b
  · rw [if_neg (by decide), if_neg (by decide), Int.emod_eq_of_lt (by omega) (by omega)]
    exact putl_nrm 4 (by omega) k _ _ o (by omega) i0 ho
  · rw [if_pos rfl, if_pos rfl]
    exact putl_nrm 4 (by omega) k _ _ o (by omega) i1 ho
end Go.Proofs.Ytgapkifgddjijaa.Enc
