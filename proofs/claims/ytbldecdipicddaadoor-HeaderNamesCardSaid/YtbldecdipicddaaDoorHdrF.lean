/- The front of a valid header, and the digests of a front and bytes. Written by wip/s1/mklseals.py. -/
import Derived.Test.YtbldecdipicddaaDoorHDigestH
import Derived.Test.YtbldecdipicddaaDoorHCheck
import Derived.Test.YtbldecdipicddaaDoorHFront
import Derived.Test.YtbldecdipicddaaDoorSumC
set_option linter.unusedSimpArgs false
set_option linter.unusedVariables false
namespace Go.Proofs.YtbldecdipicddaaDoor.Hand
open Go Go.RowKit Go.Proofs.YtbldecdipicddaaDoorW.PrintWords
def byt (m a b c d : Int) : List Int := [m, a, b / 256, b % 256, c / 256, c % 256, d / 256, d % 256]
theorem fr_eq {m a b c d : Int} (h : vld m a b c d = true) : fr m a b c d 5 = byt m a b c d := by
  have := vld_iff.1 h
  rw [show fr m a b c d 5 = [wrap64 m % 256, a % 256, b / 256 % 256, b % 256, c / 256 % 256, c % 256, d / 256 % 256, d % 256] from rfl]
  obtain ⟨⟨h1, h2, h3, h4, h5, h6⟩, h7⟩ := this
  have e : wrap64 m = m := by unfold wrap64; omega
  simp only [byt, e, List.cons.injEq, and_true, true_and]
  refine ⟨?_, ?_, ?_, ?_, ?_⟩
  all_goals omega
theorem byt_rng {m a b c d : Int} (h : vld m a b c d = true) : ∀ z ∈ byt m a b c d, 0 ≤ z ∧ z < 256 := by
  obtain ⟨⟨h1, h2, h3, h4, h5, h6⟩, h7⟩ := vld_iff.1 h
  simp only [byt, List.forall_mem_cons]
  refine ⟨by omega, by omega, by omega, by omega, by omega, by omega, by omega, by omega, fun z hz => by cases hz⟩
theorem check_at (a0 a1 a2 a3 a4 a5 a6 a7 a8 a9 a10 a11 a12 a13 a14 a15 a16 a17 a18 a19 a20 a21 a22 a23 a24 : Int) (n : Int) (h : (vld a0 a1 a2 a3 a4 = true ∧ n = 0) ∨ (¬ vld a0 a1 a2 a3 a4 = true ∧ n = 8)) (W : World) : Calls Tryd.prog 25 #[.agg #[.int .u8 a0, .int .i64 a1, .int .i64 a2, .int .i64 a3, .int .i64 a4, .int .u8 a5, .int .u8 a6, .int .u8 a7, .int .u8 a8, .int .u8 a9, .int .u8 a10, .int .u8 a11, .int .u8 a12, .int .u8 a13, .int .u8 a14, .int .u8 a15, .int .u8 a16, .int .u8 a17, .int .u8 a18, .int .u8 a19, .int .u8 a20, .int .u8 a21, .int .u8 a22, .int .u8 a23, .int .u8 a24]] W fun e w' => e = .returned (.int .i64 n) ∧ Below W.heap.size W w' := by
  have := check_calls a0 a1 a2 a3 a4 a5 a6 a7 a8 a9 a10 a11 a12 a13 a14 a15 a16 a17 a18 a19 a20 a21 a22 a23 a24 W
  rw [vld_ret n h] at this
  exact this
theorem rcheck_at (a0 a1 a2 a3 a4 a5 a6 a7 a8 a9 a10 a11 a12 a13 a14 a15 a16 a17 a18 a19 a20 a21 a22 a23 a24 : Int) (n : Int) (h : (vld a0 a1 a2 a3 a4 = true ∧ n = 0) ∨ (¬ vld a0 a1 a2 a3 a4 = true ∧ n = 8)) (W : World) : Calls Tryd.prog 26 #[.agg #[.int .u8 a0, .int .i64 a1, .int .i64 a2, .int .i64 a3, .int .i64 a4, .int .u8 a5, .int .u8 a6, .int .u8 a7, .int .u8 a8, .int .u8 a9, .int .u8 a10, .int .u8 a11, .int .u8 a12, .int .u8 a13, .int .u8 a14, .int .u8 a15, .int .u8 a16, .int .u8 a17, .int .u8 a18, .int .u8 a19, .int .u8 a20, .int .u8 a21, .int .u8 a22, .int .u8 a23, .int .u8 a24]] W fun e w' => e = .returned (.int .i64 n) ∧ Below W.heap.size W w' := by
  have := rcheck_calls a0 a1 a2 a3 a4 a5 a6 a7 a8 a9 a10 a11 a12 a13 a14 a15 a16 a17 a18 a19 a20 a21 a22 a23 a24 W
  rw [vld_ret n h] at this
  exact this
theorem front_at (a0 a1 a2 a3 a4 a5 a6 a7 a8 a9 a10 a11 a12 a13 a14 a15 a16 a17 a18 a19 a20 a21 a22 a23 a24 : Int) (hv : vld a0 a1 a2 a3 a4 = true) (W : World) (hT : TabW W) : Calls Tryd.prog 66 #[.agg #[.int .u8 a0, .int .i64 a1, .int .i64 a2, .int .i64 a3, .int .i64 a4, .int .u8 a5, .int .u8 a6, .int .u8 a7, .int .u8 a8, .int .u8 a9, .int .u8 a10, .int .u8 a11, .int .u8 a12, .int .u8 a13, .int .u8 a14, .int .u8 a15, .int .u8 a16, .int .u8 a17, .int .u8 a18, .int .u8 a19, .int .u8 a20, .int .u8 a21, .int .u8 a22, .int .u8 a23, .int .u8 a24]] W fun e w' => ∃ v0_ : Value, e = .returned v0_ ∧ Kd.R (Kd.int .u8) 5 w' W.heap.size (fun _ => True) v0_ (byt a0 a1 a2 a3 a4) ∧ Below W.heap.size W w' := by
  have := front_calls a0 a1 a2 a3 a4 a5 a6 a7 a8 a9 a10 a11 a12 a13 a14 a15 a16 a17 a18 a19 a20 a21 a22 a23 a24 W hT
  rw [fr_eq hv] at this
  exact this
/-- header.digest. -/
theorem dig_at (a0 a1 a2 a3 a4 a5 a6 a7 a8 a9 a10 a11 a12 a13 a14 a15 a16 a17 a18 a19 a20 a21 a22 a23 a24 : Int) (Ab : Option Addr) (cb : Nat) (l : List Int) (hv : vld a0 a1 a2 a3 a4 = true) (hlen : l.length ≤ 5000) (d0 d1 d2 d3 d4 d5 d6 d7 d8 d9 d10 d11 d12 d13 d14 d15 d16 d17 d18 d19 : Int) (hd : dig (fin5 (byt a0 a1 a2 a3 a4 ++ l)) = [d0, d1, d2, d3, d4, d5, d6, d7, d8, d9, d10, d11, d12, d13, d14, d15, d16, d17, d18, d19]) (W : World) (hT : TabQ W ∧ TabW W) (hr : Kd.C (Kd.int .u8) W Ab l.length l) :
    Calls Tryd.prog 81 #[.agg #[.int .u8 a0, .int .i64 a1, .int .i64 a2, .int .i64 a3, .int .i64 a4, .int .u8 a5, .int .u8 a6, .int .u8 a7, .int .u8 a8, .int .u8 a9, .int .u8 a10, .int .u8 a11, .int .u8 a12, .int .u8 a13, .int .u8 a14, .int .u8 a15, .int .u8 a16, .int .u8 a17, .int .u8 a18, .int .u8 a19, .int .u8 a20, .int .u8 a21, .int .u8 a22, .int .u8 a23, .int .u8 a24], .slice Ab l.length cb] W fun e w' => e = .returned (.agg #[.int .u8 d0, .int .u8 d1, .int .u8 d2, .int .u8 d3, .int .u8 d4, .int .u8 d5, .int .u8 d6, .int .u8 d7, .int .u8 d8, .int .u8 d9, .int .u8 d10, .int .u8 d11, .int .u8 d12, .int .u8 d13, .int .u8 d14, .int .u8 d15, .int .u8 d16, .int .u8 d17, .int .u8 d18, .int .u8 d19]) ∧ Below W.heap.size W w' :=
  hdig a0 a1 a2 a3 a4 a5 a6 a7 a8 a9 a10 a11 a12 a13 a14 a15 a16 a17 a18 a19 a20 a21 a22 a23 a24 Ab cb l W hT hr (byt a0 a1 a2 a3 a4) d0 d1 d2 d3 d4 d5 d6 d7 d8 d9 d10 d11 d12 d13 d14 d15 d16 d17 d18 d19 ⟨hlen, rfl⟩ (fun W hT => front_at a0 a1 a2 a3 a4 a5 a6 a7 a8 a9 a10 a11 a12 a13 a14 a15 a16 a17 a18 a19 a20 a21 a22 a23 a24 hv W hT) (fun W A1 c1 hT hr hc => by
    have := sum_c A1 c1 (byt a0 a1 a2 a3 a4 ++ l) W hT hr hc (by rw [List.length_append]; show 8 + l.length ≤ _; omega)
    rw [hd] at this
    exact this)
end Go.Proofs.YtbldecdipicddaaDoor.Hand
