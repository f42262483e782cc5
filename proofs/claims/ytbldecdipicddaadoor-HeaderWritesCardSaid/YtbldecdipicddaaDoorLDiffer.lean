/- HeaderDiffer answers true, for every two headers. Written by wip/s1/mkldiffer.py. -/
import Derived.Test.YtbldecdipicddaaDoorHdrMath
import Derived.Test.YtbldecdipicddaaDoorHDiffer
import Derived.Test.YtbldecdipicddaaDoorHEq
set_option linter.unusedSimpArgs false
set_option linter.unusedVariables false
namespace Go.Proofs.YtbldecdipicddaaDoor.Hand
open Go Go.RowKit Go.Proofs.YtbldecdipicddaaDoorW.PrintWords Go.Proofs.YtbldecdipicddaaDoor.QS
theorem byt_range {m a b c d : Int} (h : vld m a b c d = true) : ∀ x ∈ byt m a b c d, 0 ≤ x ∧ x < 256 := by
  have := vld_iff.1 h
  intro x hx
  simp only [byt, List.mem_cons, List.not_mem_nil, or_false] at hx
  omega
theorem byt_inj {m a b c d m' a' b' c' d' : Int} (h : byt m a b c d = byt m' a' b' c' d') : m = m' ∧ a = a' ∧ b = b' ∧ c = c' ∧ d = d' := by
  simp only [byt, List.cons.injEq, and_true] at h
  omega
theorem differ (a0 a1 a2 a3 a4 a5 a6 a7 a8 a9 a10 a11 a12 a13 a14 a15 a16 a17 a18 a19 a20 a21 a22 a23 a24 b0 b1 b2 b3 b4 b5 b6 b7 b8 b9 b10 b11 b12 b13 b14 b15 b16 b17 b18 b19 b20 b21 b22 b23 b24 : Int) (w : World) (hT : TabW w) : Calls Tryd.prog 5 #[.agg #[.int .u8 a0, .int .i64 a1, .int .i64 a2, .int .i64 a3, .int .i64 a4, .int .u8 a5, .int .u8 a6, .int .u8 a7, .int .u8 a8, .int .u8 a9, .int .u8 a10, .int .u8 a11, .int .u8 a12, .int .u8 a13, .int .u8 a14, .int .u8 a15, .int .u8 a16, .int .u8 a17, .int .u8 a18, .int .u8 a19, .int .u8 a20, .int .u8 a21, .int .u8 a22, .int .u8 a23, .int .u8 a24], .agg #[.int .u8 b0, .int .i64 b1, .int .i64 b2, .int .i64 b3, .int .i64 b4, .int .u8 b5, .int .u8 b6, .int .u8 b7, .int .u8 b8, .int .u8 b9, .int .u8 b10, .int .u8 b11, .int .u8 b12, .int .u8 b13, .int .u8 b14, .int .u8 b15, .int .u8 b16, .int .u8 b17, .int .u8 b18, .int .u8 b19, .int .u8 b20, .int .u8 b21, .int .u8 b22, .int .u8 b23, .int .u8 b24]] w fun e w' => e = .returned (.bool true) ∧ Below w.heap.size w w' := by
  by_cases ha : vld a0 a1 a2 a3 a4 = true
  · by_cases hb : vld b0 b1 b2 b3 b4 = true
    · refine differ_ok a0 a1 a2 a3 a4 a5 a6 a7 a8 a9 a10 a11 a12 a13 a14 a15 a16 a17 a18 a19 a20 a21 a22 a23 a24 b0 b1 b2 b3 b4 b5 b6 b7 b8 b9 b10 b11 b12 b13 b14 b15 b16 b17 b18 b19 b20 b21 b22 b23 b24 w hT (fun W hT => bitloftlaw26_alive.calls true W hT rfl) (fun W => bitloftref26_Check.calls 5 a0 a1 a2 a3 a4 a5 a6 a7 a8 a9 a10 a11 a12 a13 a14 a15 a16 a17 a18 a19 a20 a21 a22 a23 a24 0 W (by rw [refCheck_eq, if_pos ha])) (fun W => bitloftref26_Check.calls 5 b0 b1 b2 b3 b4 b5 b6 b7 b8 b9 b10 b11 b12 b13 b14 b15 b16 b17 b18 b19 b20 b21 b22 b23 b24 0 W (by rw [refCheck_eq, if_pos hb])) (byt a0 a1 a2 a3 a4 ++ [a5, a6, a7, a8, a9, a10, a11, a12, a13, a14, a15, a16, a17, a18, a19, a20, a21, a22, a23, a24]) (byt b0 b1 b2 b3 b4 ++ [b5, b6, b7, b8, b9, b10, b11, b12, b13, b14, b15, b16, b17, b18, b19, b20, b21, b22, b23, b24]) (fun W hT => header_Encode.calls 5 a0 a1 a2 a3 a4 a5 a6 a7 a8 a9 a10 a11 a12 a13 a14 a15 a16 a17 a18 a19 a20 a21 a22 a23 a24 _ _ W hT (enc_ok a0 a1 a2 a3 a4 a5 a6 a7 a8 a9 a10 a11 a12 a13 a14 a15 a16 a17 a18 a19 a20 a21 a22 a23 a24 ha)) (fun W hT => header_Encode.calls 5 b0 b1 b2 b3 b4 b5 b6 b7 b8 b9 b10 b11 b12 b13 b14 b15 b16 b17 b18 b19 b20 b21 b22 b23 b24 _ _ W hT (enc_ok b0 b1 b2 b3 b4 b5 b6 b7 b8 b9 b10 b11 b12 b13 b14 b15 b16 b17 b18 b19 b20 b21 b22 b23 b24 hb)) rfl rfl rfl _ ⟨?_⟩ ⟨fun d W => eqA25 d W a0 b0 a1 b1 a2 b2 a3 b3 a4 b4 a5 a5 a6 a6 a7 a7 a8 a8 a9 a9 a10 a10 a11 a11 a12 a12 a13 a13 a14 a14 a15 a15 a16 a16 a17 a17 a18 a18 a19 a19 a20 a20 a21 a21 a22 a22 a23 a23 a24 a24⟩
      rw [show (byt a0 a1 a2 a3 a4 ++ [a5, a6, a7, a8, a9, a10, a11, a12, a13, a14, a15, a16, a17, a18, a19, a20, a21, a22, a23, a24]).take 8 = byt a0 a1 a2 a3 a4 from rfl, show (byt b0 b1 b2 b3 b4 ++ [b5, b6, b7, b8, b9, b10, b11, b12, b13, b14, b15, b16, b17, b18, b19, b20, b21, b22, b23, b24]).take 8 = byt b0 b1 b2 b3 b4 from rfl, Bool.eq_iff_iff]
      simp only [beq_iff_eq, Bool.and_eq_true, beq_self_eq_true, and_true]
      constructor
      · intro h
        obtain ⟨h0, h1, h2, h3, h4⟩ := byt_inj (str_inj (byt_range ha) (byt_range hb) h)
        exact ⟨h0, h1, h2, h3, h4⟩
      · rintro ⟨rfl, rfl, rfl, rfl, rfl⟩
        rfl
    · exact differ_b a0 a1 a2 a3 a4 a5 a6 a7 a8 a9 a10 a11 a12 a13 a14 a15 a16 a17 a18 a19 a20 a21 a22 a23 a24 b0 b1 b2 b3 b4 b5 b6 b7 b8 b9 b10 b11 b12 b13 b14 b15 b16 b17 b18 b19 b20 b21 b22 b23 b24 w hT (fun W hT => bitloftlaw26_alive.calls true W hT rfl) (fun W => bitloftref26_Check.calls 5 a0 a1 a2 a3 a4 a5 a6 a7 a8 a9 a10 a11 a12 a13 a14 a15 a16 a17 a18 a19 a20 a21 a22 a23 a24 0 W (by rw [refCheck_eq, if_pos ha])) (fun W => bitloftref26_Check.calls 5 b0 b1 b2 b3 b4 b5 b6 b7 b8 b9 b10 b11 b12 b13 b14 b15 b16 b17 b18 b19 b20 b21 b22 b23 b24 8 W (by rw [refCheck_eq, if_neg hb]))
  · exact differ_a a0 a1 a2 a3 a4 a5 a6 a7 a8 a9 a10 a11 a12 a13 a14 a15 a16 a17 a18 a19 a20 a21 a22 a23 a24 b0 b1 b2 b3 b4 b5 b6 b7 b8 b9 b10 b11 b12 b13 b14 b15 b16 b17 b18 b19 b20 b21 b22 b23 b24 w hT (fun W hT => bitloftlaw26_alive.calls true W hT rfl) (fun W => bitloftref26_Check.calls 5 a0 a1 a2 a3 a4 a5 a6 a7 a8 a9 a10 a11 a12 a13 a14 a15 a16 a17 a18 a19 a20 a21 a22 a23 a24 8 W (by rw [refCheck_eq, if_neg ha]))
end Go.Proofs.YtbldecdipicddaaDoor.Hand
