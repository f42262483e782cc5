/- EncoderPuts: New, Check, Split, Put and End give what the reference gives. -/
import Derived.Test.YtgapkifgddjijaaEncPut
import Derived.Test.YtgapkifgddjijaaQBx7
import Derived.OpenShut
namespace Go.Proofs.Ytgapkifgddjijaa.Pure
open Go Go.RowKit Go.Proofs.Ytgapkifgddjijaa.QB Go.Proofs.Ytgapkifgddjijaa.Enc Go.Proofs.YtgapkifgddjijaaW.PrintWords Go.Proofs.YtgapkifgddjijaaW.PrintLast
theorem Same_ok (x1 x2 : Int) (l : List Int) : bitloftref20_Same.f x1 x2 l x1 x2 l = some true := by
  unfold bitloftref20_Same.f
  rw [if_pos rfl, if_pos rfl, beq_self_eq_true]
theorem puts_j0 {x1 x2 : Int} (h0 : 0 ≤ x1) (h1 : x1 ≤ 4294967295) (h2 : 0 ≤ x2) (h3 : x2 ≤ 4294967295) (l : List Int) {a1 a2 : Int} (g0 : 0 ≤ a1) (g3 : a2 ≤ 4294967295) (p : Int) (b c : Bool) :
    bitloftlaw20_EncoderPuts.j0 21 a1 a2 p b c x1 x2 l = some true := by
  have e : encoder_Put.f 20 x1 x2 l p b = some (ptd x1 x2 l p b) := Putf_ok (by decide) h0 h3 l p b
  have n : encoder_New.f = some (0, 4294967295, []) := rfl
  have n' : bitloftref20_New.f = some (0, 4294967295, []) := rfl
  rw [bitloftlaw20_EncoderPuts.j0.eq_2]
  cases c
  · rw [if_neg (by decide), (Split_ok g0 g3 p).1, (Split_ok g0 g3 p).2, e, Put_ok (by decide) h0 h1 h2 h3, EndB_ok, EndR_ok (by decide) h0 h1 h2 h3, n, n', check_ok, Check_ok h0 h1 h2 h3]
    simp only [Option.bind_some, Same_ok, if_true, beq_self_eq_true]
  · rw [if_pos rfl]
theorem EncoderPuts (x1 x2 : Int) (l : List Int) (a1 a2 a3 : Int) (a4 : Bool) (w0 : (Lit.int .u32 x1).wf = true) (w1 : (Lit.int .u32 x2).wf = true) (_ : ∀ n ∈ l, (Lit.int .u8 n).wf = true) (w2 : (Lit.int .u32 a1).wf = true) (w3 : (Lit.int .u32 a2).wf = true) (_ : (Lit.int .i64 a3).wf = true) :
    ∃ k, bitloftlaw20_EncoderPuts.f k x1 x2 l a1 a2 a3 a4 = some true := by
  obtain ⟨h0, h1⟩ := bounds_u32 w0
  obtain ⟨h2, h3⟩ := bounds_u32 w1
  obtain ⟨g0, _⟩ := bounds_u32 w2
  obtain ⟨_, g3⟩ := bounds_u32 w3
  refine ⟨21, ?_⟩
  unfold bitloftlaw20_EncoderPuts.f
  split
  · split <;> exact puts_j0 h0 h1 h2 h3 l g0 g3 _ _ _
  · exact puts_j0 h0 h1 h2 h3 l g0 g3 _ _ _
end Go.Proofs.Ytgapkifgddjijaa.Pure
