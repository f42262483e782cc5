/- HeaderSealed answers true, for every header, every bytes and every digest. Written by wip/s1/mklsealed.py. -/
import Derived.Test.YtbldecdipicddaaDoorHSealed
import Derived.Test.YtbldecdipicddaaDoorAlive26L
set_option linter.unusedSimpArgs false
set_option linter.unusedVariables false
namespace Go.Proofs.YtbldecdipicddaaDoor.Hand
open Go Go.RowKit Go.Proofs.YtbldecdipicddaaDoorW.PrintWords
theorem beq_sym (x y : Int) : (x == y) = (y == x) := by
  by_cases h : x = y
  · rw [h]
  · rw [beq_eq_false_iff_ne.2 h, beq_eq_false_iff_ne.2 (fun e => h e.symm)]
theorem sealedOne (a0 a1 a2 a3 a4 a5 a6 a7 a8 a9 a10 a11 a12 a13 a14 a15 a16 a17 a18 a19 a20 a21 a22 a23 a24 : Int) (Ab : Option Addr) (cb : Nat) (l : List Int) (lo : List Int) (w : World) (hT : TabQ w ∧ TabW w) (hr : Kd.C (Kd.int .u8) w Ab l.length l) (hc : l.length ≤ cb) (hb : ∀ z ∈ l, 0 ≤ z ∧ z < 256) (hl : lo.length = 20) (hg : ∀ z ∈ lo, (Lit.int .u8 z).wf = true) :
    Calls Tryd.prog 16 #[.agg #[.int .u8 a0, .int .i64 a1, .int .i64 a2, .int .i64 a3, .int .i64 a4, .int .u8 a5, .int .u8 a6, .int .u8 a7, .int .u8 a8, .int .u8 a9, .int .u8 a10, .int .u8 a11, .int .u8 a12, .int .u8 a13, .int .u8 a14, .int .u8 a15, .int .u8 a16, .int .u8 a17, .int .u8 a18, .int .u8 a19, .int .u8 a20, .int .u8 a21, .int .u8 a22, .int .u8 a23, .int .u8 a24], .slice Ab l.length cb, .agg (lo.map (Value.int .u8)).toArray] w fun e w' => e = .returned (.bool true) ∧ Below w.heap.size w w' := by
  obtain ⟨o0, o1, o2, o3, o4, o5, o6, o7, o8, o9, o10, o11, o12, o13, o14, o15, o16, o17, o18, o19, rfl⟩ := list20 lo hl
  show Calls Tryd.prog 16 #[.agg #[.int .u8 a0, .int .i64 a1, .int .i64 a2, .int .i64 a3, .int .i64 a4, .int .u8 a5, .int .u8 a6, .int .u8 a7, .int .u8 a8, .int .u8 a9, .int .u8 a10, .int .u8 a11, .int .u8 a12, .int .u8 a13, .int .u8 a14, .int .u8 a15, .int .u8 a16, .int .u8 a17, .int .u8 a18, .int .u8 a19, .int .u8 a20, .int .u8 a21, .int .u8 a22, .int .u8 a23, .int .u8 a24], .slice Ab l.length cb, .agg #[.int .u8 o0, .int .u8 o1, .int .u8 o2, .int .u8 o3, .int .u8 o4, .int .u8 o5, .int .u8 o6, .int .u8 o7, .int .u8 o8, .int .u8 o9, .int .u8 o10, .int .u8 o11, .int .u8 o12, .int .u8 o13, .int .u8 o14, .int .u8 o15, .int .u8 o16, .int .u8 o17, .int .u8 o18, .int .u8 o19]] w _
  have hal := fun (W : World) (hT : TabW W) => alive26w W hT
  by_cases hv : ¬ vld a0 a1 a2 a3 a4 = true
  · exact sealed_bad a0 a1 a2 a3 a4 a5 a6 a7 a8 a9 a10 a11 a12 a13 a14 a15 a16 a17 a18 a19 a20 a21 a22 a23 a24 Ab cb l o0 o1 o2 o3 o4 o5 o6 o7 o8 o9 o10 o11 o12 o13 o14 o15 o16 o17 o18 o19 w hT hal (rcheck_at a0 a1 a2 a3 a4 a5 a6 a7 a8 a9 a10 a11 a12 a13 a14 a15 a16 a17 a18 a19 a20 a21 a22 a23 a24 8 (.inr ⟨hv, rfl⟩))
  replace hv := Decidable.not_not.1 hv
  have r0 := rcheck_at a0 a1 a2 a3 a4 a5 a6 a7 a8 a9 a10 a11 a12 a13 a14 a15 a16 a17 a18 a19 a20 a21 a22 a23 a24 0 (.inl ⟨hv, rfl⟩)
  by_cases he : ¬ (l.length : Int) = a3
  · exact sealed_ne a0 a1 a2 a3 a4 a5 a6 a7 a8 a9 a10 a11 a12 a13 a14 a15 a16 a17 a18 a19 a20 a21 a22 a23 a24 Ab cb l o0 o1 o2 o3 o4 o5 o6 o7 o8 o9 o10 o11 o12 o13 o14 o15 o16 o17 o18 o19 w hT hal r0 he
  replace he := Decidable.not_not.1 he
  have hlen : l.length ≤ 5000 := by obtain ⟨⟨h1, h2, h3, h4, h5, h6⟩, h7⟩ := vld_iff.1 hv; omega
  obtain ⟨d0, d1, d2, d3, d4, d5, d6, d7, d8, d9, d10, d11, d12, d13, d14, d15, d16, d17, d18, d19, hd⟩ := list20 (dig (fin5 (byt a0 a1 a2 a3 a4 ++ l))) rfl
  have hq : ∀ (d : Nat) (W : World), (Op.equalIn (d + 2) 23 (.agg #[.int .u8 d0, .int .u8 d1, .int .u8 d2, .int .u8 d3, .int .u8 d4, .int .u8 d5, .int .u8 d6, .int .u8 d7, .int .u8 d8, .int .u8 d9, .int .u8 d10, .int .u8 d11, .int .u8 d12, .int .u8 d13, .int .u8 d14, .int .u8 d15, .int .u8 d16, .int .u8 d17, .int .u8 d18, .int .u8 d19]) (.agg #[.int .u8 d0, .int .u8 d1, .int .u8 d2, .int .u8 d3, .int .u8 d4, .int .u8 d5, .int .u8 d6, .int .u8 d7, .int .u8 d8, .int .u8 d9, .int .u8 d10, .int .u8 d11, .int .u8 d12, .int .u8 d13, .int .u8 d14, .int .u8 d15, .int .u8 d16, .int .u8 d17, .int .u8 d18, .int .u8 d19])).run Tryd.prog W = .ok true W := fun d W => (eqA23 d W d0 d0 d1 d1 d2 d2 d3 d3 d4 d4 d5 d5 d6 d6 d7 d7 d8 d8 d9 d9 d10 d10 d11 d11 d12 d12 d13 d13 d14 d14 d15 d15 d16 d16 d17 d17 d18 d18 d19 d19).trans (by simp only [beq_self_eq_true, Bool.and_self])
  have hO := fun (d : Nat) (W : World) => eqA23 d W o0 d0 o1 d1 o2 d2 o3 d3 o4 d4 o5 d5 o6 d6 o7 d7 o8 d8 o9 d9 o10 d10 o11 d11 o12 d12 o13 d13 o14 d14 o15 d15 o16 d16 o17 d17 o18 d18 o19 d19
  have hDO := fun (d : Nat) (W : World) => eqA23 d W d0 o0 d1 o1 d2 o2 d3 o3 d4 o4 d5 o5 d6 o6 d7 o7 d8 o8 d9 o9 d10 o10 d11 o11 d12 o12 d13 o13 d14 o14 d15 o15 d16 o16 d17 o17 d18 o18 d19 o19
  simp only [beq_sym d0 o0, beq_sym d1 o1, beq_sym d2 o2, beq_sym d3 o3, beq_sym d4 o4, beq_sym d5 o5, beq_sym d6 o6, beq_sym d7 o7, beq_sym d8 o8, beq_sym d9 o9, beq_sym d10 o10, beq_sym d11 o11, beq_sym d12 o12, beq_sym d13 o13, beq_sym d14 o14, beq_sym d15 o15, beq_sym d16 o16, beq_sym d17 o17, beq_sym d18 o18, beq_sym d19 o19] at hDO
  have hg := fun (b0 b1 b2 b3 b4 b5 b6 b7 b8 b9 b10 b11 b12 b13 b14 b15 b16 b17 b18 b19 : Int) (w1 : World) (h1 : Below w.heap.size w w1) (W : World) (hT : TabQ W ∧ TabW W) (hB : Below w1.heap.size w1 W) => dig_at a0 a1 a2 a3 a4 b0 b1 b2 b3 b4 b5 b6 b7 b8 b9 b10 b11 b12 b13 b14 b15 b16 b17 b18 b19 Ab cb l hv hlen d0 d1 d2 d3 d4 d5 d6 d7 d8 d9 d10 d11 d12 d13 d14 d15 d16 d17 d18 d19 hd W hT (Kd.C_below (Kd.C_below hr h1) hB)
  exact sealed_walk a0 a1 a2 a3 a4 a5 a6 a7 a8 a9 a10 a11 a12 a13 a14 a15 a16 a17 a18 a19 a20 a21 a22 a23 a24 Ab cb l o0 o1 o2 o3 o4 o5 o6 o7 o8 o9 o10 o11 o12 o13 o14 o15 o16 o17 o18 o19 w hT (byt a0 a1 a2 a3 a4 ++ [a5, a6, a7, a8, a9, a10, a11, a12, a13, a14, a15, a16, a17, a18, a19, a20, a21, a22, a23, a24]) d0 d1 d2 d3 d4 d5 d6 d7 d8 d9 d10 d11 d12 d13 d14 d15 d16 d17 d18 d19 _ hr hal r0 ⟨he, hlen⟩
    (fun W hT hB => hSeal_ok a0 a1 a2 a3 a4 a5 a6 a7 a8 a9 a10 a11 a12 a13 a14 a15 a16 a17 a18 a19 a20 a21 a22 a23 a24 Ab cb l W hT d0 d1 d2 d3 d4 d5 d6 d7 d8 d9 d10 d11 d12 d13 d14 d15 d16 d17 d18 d19 (fun W' hT' hB' => hDig_ok a0 a1 a2 a3 a4 a5 a6 a7 a8 a9 a10 a11 a12 a13 a14 a15 a16 a17 a18 a19 a20 a21 a22 a23 a24 Ab cb l W' hT' d0 d1 d2 d3 d4 d5 d6 d7 d8 d9 d10 d11 d12 d13 d14 d15 d16 d17 d18 d19 (check_at a0 a1 a2 a3 a4 a5 a6 a7 a8 a9 a10 a11 a12 a13 a14 a15 a16 a17 a18 a19 a20 a21 a22 a23 a24 0 (.inl ⟨hv, rfl⟩)) he (hg a5 a6 a7 a8 a9 a10 a11 a12 a13 a14 a15 a16 a17 a18 a19 a20 a21 a22 a23 a24 W' (below_step hB hB'))))
    (fun W hT hB => hDig_ok a0 a1 a2 a3 a4 d0 d1 d2 d3 d4 d5 d6 d7 d8 d9 d10 d11 d12 d13 d14 d15 d16 d17 d18 d19 Ab cb l W hT d0 d1 d2 d3 d4 d5 d6 d7 d8 d9 d10 d11 d12 d13 d14 d15 d16 d17 d18 d19 (check_at a0 a1 a2 a3 a4 d0 d1 d2 d3 d4 d5 d6 d7 d8 d9 d10 d11 d12 d13 d14 d15 d16 d17 d18 d19 0 (.inl ⟨hv, rfl⟩)) he (hg d0 d1 d2 d3 d4 d5 d6 d7 d8 d9 d10 d11 d12 d13 d14 d15 d16 d17 d18 d19 W hB))
    (fun W hT => enc_yes a0 a1 a2 a3 a4 a5 a6 a7 a8 a9 a10 a11 a12 a13 a14 a15 a16 a17 a18 a19 a20 a21 a22 a23 a24 hv W hT) rfl
    (fun W A1 c1 hT hr hc => by
      have e : (([] ++ (byt a0 a1 a2 a3 a4 ++ [a5, a6, a7, a8, a9, a10, a11, a12, a13, a14, a15, a16, a17, a18, a19, a20, a21, a22, a23, a24]).take 8) ++ l) = byt a0 a1 a2 a3 a4 ++ l := rfl
      rw [e] at hr hc ⊢
      have := sum_c A1 c1 (byt a0 a1 a2 a3 a4 ++ l) W hT hr hc (by rw [List.length_append]; show 8 + l.length ≤ _; omega)
      rw [hd] at this
      exact this)
    (fun W hT hB => hRight_ok a0 a1 a2 a3 a4 d0 d1 d2 d3 d4 d5 d6 d7 d8 d9 d10 d11 d12 d13 d14 d15 d16 d17 d18 d19 Ab cb l W hT d0 d1 d2 d3 d4 d5 d6 d7 d8 d9 d10 d11 d12 d13 d14 d15 d16 d17 d18 d19 true (check_at a0 a1 a2 a3 a4 d0 d1 d2 d3 d4 d5 d6 d7 d8 d9 d10 d11 d12 d13 d14 d15 d16 d17 d18 d19 0 (.inl ⟨hv, rfl⟩)) he (hg d0 d1 d2 d3 d4 d5 d6 d7 d8 d9 d10 d11 d12 d13 d14 d15 d16 d17 d18 d19 W hB) hq)
    (fun W hT hB => hRight_ok a0 a1 a2 a3 a4 o0 o1 o2 o3 o4 o5 o6 o7 o8 o9 o10 o11 o12 o13 o14 o15 o16 o17 o18 o19 Ab cb l W hT d0 d1 d2 d3 d4 d5 d6 d7 d8 d9 d10 d11 d12 d13 d14 d15 d16 d17 d18 d19 _ (check_at a0 a1 a2 a3 a4 o0 o1 o2 o3 o4 o5 o6 o7 o8 o9 o10 o11 o12 o13 o14 o15 o16 o17 o18 o19 0 (.inl ⟨hv, rfl⟩)) he (hg o0 o1 o2 o3 o4 o5 o6 o7 o8 o9 o10 o11 o12 o13 o14 o15 o16 o17 o18 o19 W hB) hDO)
    hO
end Go.Proofs.YtbldecdipicddaaDoor.Hand
