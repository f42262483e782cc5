/- EncoderRange: the range of a bit is a part of the one before it. -/
import Derived.Test.YtgapkifgddjijaaEncPut
import Derived.Test.YtgapkifgddjijaaEncAlive
import Derived.Test.YtgapkifgddjijaaQBx8
import Derived.OpenShut
namespace Go.Proofs.Ytgapkifgddjijaa.Pure
open Go Go.RowKit Go.Proofs.Ytgapkifgddjijaa.QB Go.Proofs.Ytgapkifgddjijaa.Enc Go.Proofs.YtgapkifgddjijaaW.PrintWords Go.Proofs.YtgapkifgddjijaaW.PrintLast
theorem range_j0 (p : Int) (x1 x2 : Int) (l : List Int) : bitloftlaw20_EncoderRange.j0 24 p true true x1 x2 l = some true := by
  rw [bitloftlaw20_EncoderRange.j0.eq_2, if_pos rfl]
theorem EncoderRange (x1 x2 : Int) (l : List Int) (p : Int) (w0 : (Lit.int .u32 x1).wf = true) (w1 : (Lit.int .u32 x2).wf = true) (_ : ∀ n ∈ l, (Lit.int .u8 n).wf = true) (_ : (Lit.int .i64 p).wf = true) :
    ∃ k, bitloftlaw20_EncoderRange.f k x1 x2 l p = some true := by
  obtain ⟨h0, h1⟩ := bounds_u32 w0
  obtain ⟨h2, h3⟩ := bounds_u32 w1
  refine ⟨24, ?_⟩
  unfold bitloftlaw20_EncoderRange.f
  rw [alive20 (by decide), Option.bind_some]
  by_cases c : (l.length : Int) > 100
  · rw [if_pos c]; exact range_j0 _ _ _ _
  rw [if_neg c, Check_ok h0 h1 h2 h3, Option.bind_some]
  by_cases d : chk x1 x2 l = 0
  rotate_left
  · rw [if_neg d]; exact range_j0 _ _ _ _
  rw [if_pos d, Prob_ok, Option.bind_some]
  by_cases e : prb p = true
  rotate_left
  · rw [if_neg e]; exact range_j0 _ _ _ _
  rw [if_pos e, Bool.not_true]
  obtain ⟨lt, _, _⟩ := chk_zero d
  obtain ⟨p0, p1⟩ := (prb_iff p).1 e
  have ok : Ok x1 x2 := ⟨h0, lt, h3⟩
  obtain ⟨y1, y2, t, g, oky, ney, tl, tz, _⟩ := stp_ok ok p0 p1 true
  obtain ⟨z1, z2, u, f, okz, nez, ul, uz, _⟩ := stp_ok ok p0 p1 false
  have lty : (l ++ t).length ≤ 20000 := by rw [List.length_append]; omega
  have ltz : (l ++ u).length ≤ 20000 := by rw [List.length_append]; omega
  have one : encoder_Put.f 23 x1 x2 l p true = some (y1, y2, l ++ t, 0) := by
    have a : encoder_Put.f 23 x1 x2 l p true = some (ptd x1 x2 l p true) := Putf_ok (by decide) h0 h3 l p true
    rw [a]
    unfold ptd
    rw [if_pos d, if_pos e, g l, if_neg (by show ¬ ((l ++ t).length : Int) > 20000; omega)]
  have zero : encoder_Put.f 23 x1 x2 l p false = some (z1, z2, l ++ u, 0) := by
    have a : encoder_Put.f 23 x1 x2 l p false = some (ptd x1 x2 l p false) := Putf_ok (by decide) h0 h3 l p false
    rw [a]
    unfold ptd
    rw [if_pos d, if_pos e, f l, if_neg (by show ¬ ((l ++ u).length : Int) > 20000; omega)]
  rw [bitloftlaw20_EncoderRange.j0.eq_2, if_neg (by decide), one, zero]
  simp only [Option.bind_some, if_true]
  obtain ⟨ya, yb, yc⟩ := oky
  obtain ⟨za, zb, zc⟩ := okz
  rw [Check_ok ya (by omega) (by omega) yc, chk_mk yb ney lty, Check_ok za (by omega) (by omega) zc, chk_mk zb nez ltz]
  simp only [Option.bind_some, if_true]
  rw [bitloftlaw20_EncoderRange.j1.eq_2, if_neg (by decide)]
  have len_t : ((l ++ t).length : Int) = (l.length : Int) ↔ t = [] := by
    rw [List.length_append]
    constructor
    · intro h; exact List.length_eq_zero_iff.1 (by omega)
    · intro h; rw [h]; simp
  have len_u : ((l ++ u).length : Int) = (l.length : Int) ↔ u = [] := by
    rw [List.length_append]
    constructor
    · intro h; exact List.length_eq_zero_iff.1 (by omega)
    · intro h; rw [h]; simp
  have j2 : bitloftlaw20_EncoderRange.j2 22 true false x1 x2 l y1 y2 (l ++ t) z1 z2 (l ++ u) = some true := by
    rw [bitloftlaw20_EncoderRange.j2.eq_2, if_neg (by decide)]
    by_cases a : ((l ++ t).length : Int) > (l.length : Int)
    · rw [if_pos a]
    rw [if_neg a]
    by_cases b : ((l ++ u).length : Int) > (l.length : Int)
    · rw [if_pos b]
    rw [if_neg b, if_pos rfl]
    rw [List.length_append] at a b
    have t0 : t = [] := List.length_eq_zero_iff.1 (by omega)
    have u0 : u = [] := List.length_eq_zero_iff.1 (by omega)
    have ty := tz t0
    have uy := uz u0
    rw [if_pos rfl] at ty
    rw [if_neg (by decide)] at uy
    have ml := md_lt lt p1
    have mg := md_le lt p0
    rw [u64_id (n := y2) (by omega) (by omega), u64_id (n := y2 + 1) (by omega) (by omega), u64_id (n := z1) (by omega) (by omega), ty.2, uy.1, beq_self_eq_true]
  have z2e : u = [] → (z2 != x2) = false := fun h => by
    have uy := uz h
    rw [if_neg (by decide)] at uy
    rw [uy.2]
    simp
  by_cases a : ((l ++ t).length : Int) = (l.length : Int)
  · have ty := tz (len_t.1 a)
    rw [if_pos rfl] at ty
    rw [if_pos a, if_pos ty.1]
    by_cases b : ((l ++ u).length : Int) = (l.length : Int)
    · rw [if_pos b, z2e (len_u.1 b)]; exact j2
    · rw [if_neg b]; exact j2
  · rw [if_neg a]
    by_cases b : ((l ++ u).length : Int) = (l.length : Int)
    · rw [if_pos b, z2e (len_u.1 b)]; exact j2
    · rw [if_neg b]; exact j2
end Go.Proofs.Ytgapkifgddjijaa.Pure
