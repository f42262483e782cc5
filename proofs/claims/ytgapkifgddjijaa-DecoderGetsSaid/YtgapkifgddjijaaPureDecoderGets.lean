/- DecoderGets: New, Check, Get and Over return what the reference returns. -/
import Derived.Test.YtgapkifgddjijaaDecBase
import Derived.Test.YtgapkifgddjijaaHandMonoR
import Derived.Test.YtgapkifgddjijaaQGx1
import Derived.Test.YtgapkifgddjijaaQGx2
import Derived.OpenShut
namespace Go.Proofs.Ytgapkifgddjijaa.Dec
open Go Go.RowKit Go.Proofs.Ytgapkifgddjijaa.Dec Go.Proofs.Ytgapkifgddjijaa.Enc Go.Proofs.YtgapkifgddjijaaW.PrintWords Go.Proofs.YtgapkifgddjijaaW.PrintLast Go.Proofs.YtgapkifgddjijaaW.PrintMore
theorem Chd_ok {k : Nat} (hk : 1 ≤ k) {x1 x2 : Int} (h0 : 0 ≤ x1) (h1 : x1 ≤ 4294967295) (h2 : 0 ≤ x2) (h3 : x2 ≤ 4294967295) (x : Int) (l : List Int) (t : Int) : QG.bitloftref21_Check.f k x1 x2 x l t = some (chd x1 x2 x l t) := by
  obtain ⟨k, rfl⟩ : ∃ m, k = m + 1 := ⟨k - 1, by omega⟩
  unfold QG.bitloftref21_Check.f chd
  rw [td h0, td h2, Int.emod_eq_of_lt (a := x1 / 16777216) (by omega) (by omega), Int.emod_eq_of_lt (a := x2 / 16777216) (by omega) (by omega)]
  by_cases a : x1 ≥ x2
  · rw [if_pos a, if_pos a, QG.bitloftref21_Check.j0.eq_2, if_pos rfl]
  rw [if_neg a, if_neg a]
  by_cases b : x1 / 16777216 = x2 / 16777216
  · rw [if_pos b, if_pos b, QG.bitloftref21_Check.j0.eq_2, if_pos rfl]
  rw [if_neg b, if_neg b]
  by_cases c : x < x1
  · rw [if_pos c, if_pos c, QG.bitloftref21_Check.j0.eq_2, if_pos rfl]
  rw [if_neg c, if_neg c, QG.bitloftref21_Check.j0.eq_2]
  by_cases d : x > x2
  · rw [decide_eq_true d, if_pos rfl, if_pos d]
  rw [decide_eq_false d, if_neg (by decide), if_neg d]
  repeat' (first | rfl | split)
theorem ByteD_ok (l : List Int) {t : Int} (h0 : 0 ≤ t) : QG.bitloftref21_Byte.f l t = some (byt l t) := ByteE_ok l h0
theorem checkD_ok (x1 x2 x : Int) (l : List Int) (t : Int) : QG.decoder_Check.f x1 x2 x l t = some (chd x1 x2 x l t) := chdE_ok x1 x2 x l t
/-- How many bytes are left, and the error. -/
def ovd (x1 x2 x : Int) (l : List Int) (t : Int) : Int × Int := if chd x1 x2 x l t = 0 then (wrap64 ((l.length : Int) - t), 0) else (0, chd x1 x2 x l t)
theorem Over_ok (x1 x2 x : Int) (l : List Int) (t : Int) : QG.decoder_Over.f x1 x2 x l t = some (ovd x1 x2 x l t) := by
  unfold QG.decoder_Over.f ovd
  rw [checkD_ok, Option.bind_some]
  by_cases c : chd x1 x2 x l t = 0
  · rw [if_pos c, if_pos c]
  · rw [if_neg c, if_neg c]
theorem New_ok {l : List Int} (hl : Byts l) {k : Nat} (hk : 5 ≤ k) : QG.bitloftref21_New.f k l = some (nwd l) := by
  unfold QG.bitloftref21_New.f nwd
  by_cases c : 20000 < l.length
  · rw [if_pos (by omega), if_pos c]
  rw [if_neg (by omega), if_neg c]
  obtain ⟨k, rfl⟩ : ∃ m, k = m + 5 := ⟨k - 5, by omega⟩
  obtain ⟨a, b⟩ := byt_in hl (t := 0) (by omega)
  obtain ⟨c, d⟩ := byt_in hl (t := 1) (by omega)
  obtain ⟨e, f⟩ := byt_in hl (t := 2) (by omega)
  obtain ⟨g, h⟩ := byt_in hl (t := 3) (by omega)
  rw [QG.bitloftref21_New.l0.eq_2, if_pos (by omega), ByteD_ok l (by omega), Option.bind_some, wr1 (by omega) (by omega)]
  rw [QG.bitloftref21_New.l0.eq_2, if_pos (by omega), ByteD_ok l (by omega), Option.bind_some, wr1 (by omega) (by omega), show (0 : Int) + 1 = 1 by rfl]
  rw [QG.bitloftref21_New.l0.eq_2, if_pos (by omega), ByteD_ok l (by omega), Option.bind_some, wr1 (by omega) (by omega), show (1 : Int) + 1 = 2 by rfl]
  rw [QG.bitloftref21_New.l0.eq_2, if_pos (by omega), ByteD_ok l (by omega), Option.bind_some, wr1 (by omega) (by omega), show (2 : Int) + 1 = 3 by rfl]
  rw [QG.bitloftref21_New.l0.eq_2, if_neg (by omega), Option.bind_some, if_pos (by rw [List.length_nil]; omega), List.nil_append]
  have e : ((((0 * 256 + byt l 0) % 4294967296 * 256 + byt l 1) % 4294967296 * 256 + byt l 2) % 4294967296 * 256 + byt l 3) % 4294967296 = win l 0 := by
    unfold win
    rw [show (0 : Int) + 1 = 1 by rfl, show (0 : Int) + 2 = 2 by rfl, show (0 : Int) + 3 = 3 by rfl]
    omega
  rw [e]
theorem byts_wf {l : List Int} (h : ∀ x ∈ l, (Lit.int .u8 x).wf = true) : Byts l := fun n hn => by have := bounds_u8 (h n hn); omega
theorem ChdE_ok {k : Nat} (hk : 1 ≤ k) {x1 x2 : Int} (h0 : 0 ≤ x1) (h1 : x1 ≤ 4294967295) (h2 : 0 ≤ x2) (h3 : x2 ≤ 4294967295) (x : Int) (l : List Int) (t : Int) : QE.bitloftref21_Check.f k x1 x2 x l t = some (chd x1 x2 x l t) := by
  obtain ⟨k, rfl⟩ : ∃ m, k = m + 1 := ⟨k - 1, by omega⟩
  unfold QE.bitloftref21_Check.f chd
  rw [td h0, td h2, Int.emod_eq_of_lt (a := x1 / 16777216) (by omega) (by omega), Int.emod_eq_of_lt (a := x2 / 16777216) (by omega) (by omega)]
  by_cases a : x1 ≥ x2
  · rw [if_pos a, if_pos a, QE.bitloftref21_Check.j0.eq_2, if_pos rfl]
  rw [if_neg a, if_neg a]
  by_cases b : x1 / 16777216 = x2 / 16777216
  · rw [if_pos b, if_pos b, QE.bitloftref21_Check.j0.eq_2, if_pos rfl]
  rw [if_neg b, if_neg b]
  by_cases c : x < x1
  · rw [if_pos c, if_pos c, QE.bitloftref21_Check.j0.eq_2, if_pos rfl]
  rw [if_neg c, if_neg c, QE.bitloftref21_Check.j0.eq_2]
  by_cases d : x > x2
  · rw [decide_eq_true d, if_pos rfl, if_pos d]
  rw [decide_eq_false d, if_neg (by decide), if_neg d]
  repeat' (first | rfl | split)
theorem RGetf_ok {l : List Int} (hl : Byts l) {k : Nat} (hk : 5 ≤ k) {x1 x2 : Int} (h0 : 0 ≤ x1) (h1 : x1 ≤ 4294967295) (h2 : 0 ≤ x2) (h3 : x2 ≤ 4294967295) (x t p : Int) : Hand.RGetf k x1 x2 x l t p = some (gtd x1 x2 x l t p) := by
  unfold Hand.RGetf gtd
  rw [ChdE_ok (by omega) h0 h1 h2 h3, Option.bind_some]
  by_cases c : chd x1 x2 x l t = 0
  · obtain ⟨lt, _, _, _, ll, t0, t1⟩ := chd_zero c
    rw [if_pos c, if_pos c, Prob_ok, Option.bind_some]
    by_cases d : prb p = true
    · obtain ⟨p0, p1⟩ := (prb_iff p).1 d
      rw [if_pos d, if_pos d, if_pos (by omega), Didf_ok hl hk ⟨h0, lt, h3⟩ p0 p1 x (by omega) (by omega), Option.bind_some]
      split <;> rfl
    · rw [if_neg d, if_neg d]
  · rw [if_neg c, if_neg c]

theorem OverR_ok {k : Nat} (hk : 1 ≤ k) {x1 x2 : Int} (h0 : 0 ≤ x1) (h1 : x1 ≤ 4294967295) (h2 : 0 ≤ x2) (h3 : x2 ≤ 4294967295) (x : Int) (l : List Int) (t : Int) : QG.bitloftref21_Over.f k x1 x2 x l t = some (ovd x1 x2 x l t) := by
  unfold QG.bitloftref21_Over.f ovd
  rw [Chd_ok hk h0 h1 h2 h3, Option.bind_some]
  by_cases c : chd x1 x2 x l t = 0
  · rw [if_pos c, if_pos c]
  · rw [if_neg c, if_neg c, Option.bind_some]
theorem SameR_ok (x1 x2 x : Int) (l : List Int) (t : Int) : QG.bitloftref21_Same.f x1 x2 x l t x1 x2 x l t = some true := by
  unfold QG.bitloftref21_Same.f
  rw [if_pos rfl, if_pos rfl, if_pos rfl, if_pos rfl, beq_self_eq_true]
end Go.Proofs.Ytgapkifgddjijaa.Dec
namespace Go.Proofs.Ytgapkifgddjijaa.Pure
open Go Go.RowKit Go.Proofs.Ytgapkifgddjijaa.QG Go.Proofs.Ytgapkifgddjijaa.Dec Go.Proofs.Ytgapkifgddjijaa.Enc Go.Proofs.YtgapkifgddjijaaW.PrintWords Go.Proofs.YtgapkifgddjijaaW.PrintLast Go.Proofs.YtgapkifgddjijaaW.PrintMore
theorem gets_j0 (p : Int) (b : Bool) (x1 x2 x : Int) (l : List Int) (t : Int) (w0 : (Lit.int .u32 x1).wf = true) (w1 : (Lit.int .u32 x2).wf = true) (hl : Byts l) : bitloftlaw21_DecoderGets.j0 24 p b x1 x2 x l t = some true := by
  obtain ⟨h0, h1⟩ := bounds_u32 w0
  obtain ⟨h2, h3⟩ := bounds_u32 w1
  rw [bitloftlaw21_DecoderGets.j0.eq_2]
  cases b
  rotate_left
  · rw [if_pos rfl]
  rw [if_neg (by decide)]
  have a : decoder_New.f 23 l = some (nwd l) := Newf_ok hl (by decide)
  have g : decoder_Get.f 23 x1 x2 x l t p = some (gtd x1 x2 x l t p) := Getf_ok hl (by decide) h0 h3 x t p
  have r : bitloftref21_Get.f 23 x1 x2 x l t p = some (gtd x1 x2 x l t p) := RGetf_ok hl (by decide) h0 h1 h2 h3 x t p
  rw [a, New_ok hl (by decide), g, r, Over_ok, OverR_ok (by decide) h0 h1 h2 h3]
  simp only [Option.bind_some]
  rw [SameR_ok, SameR_ok, checkD_ok, Chd_ok (by decide) h0 h1 h2 h3]
  simp only [Option.bind_some, if_true, beq_self_eq_true]
theorem DecoderGets (x1 x2 x : Int) (l : List Int) (t p : Int) (w0 : (Lit.int .u32 x1).wf = true) (w1 : (Lit.int .u32 x2).wf = true) (_ : (Lit.int .u32 x).wf = true) (wl : ∀ n ∈ l, (Lit.int .u8 n).wf = true) (_ : (Lit.int .i64 t).wf = true) (_ : (Lit.int .i64 p).wf = true) :
    ∃ k, bitloftlaw21_DecoderGets.f k x1 x2 x l t p = some true := by
  refine ⟨24, ?_⟩
  unfold bitloftlaw21_DecoderGets.f
  split
  · split <;> exact gets_j0 _ _ _ _ _ _ _ w0 w1 (byts_wf wl)
  · exact gets_j0 _ _ _ _ _ _ _ w0 w1 (byts_wf wl)
end Go.Proofs.Ytgapkifgddjijaa.Pure
