/- NibbleBack: Of and Bits are inverse, and Of of some bits is what steps with them give. -/
import Derived.Test.YtnbfpchbaghmfaaNibMath
import Derived.Test.YtnbfpchbaghmfaaQN1x5
import Derived.Test.YtnbfpchbaghmfaaQN1x6
import Derived.OpenShut
namespace Go.Proofs.Ytnbfpchbaghmfaa.Nib
open Go Go.RowKit Go.Proofs.Ytnbfpchbaghmfaa.QN1 Go.Proofs.YtnbfpchbaghmfaaW.PrintWords Go.Proofs.YtnbfpchbaghmfaaW.PrintLast Go.Proofs.YtnbfpchbaghmfaaW.PrintMore
/-- The part behind some bits. -/
def prt (l : List Bool) : Int := match nibble_Of.f 40 l with | some (n, _) => n | none => 0
def okL (l : List Bool) : Bool := decide (nibble_Of.f 40 l = some (prt l, 0)) && decide (nibble_Bits.f 40 (prt l) = some (l, 0))
def okS (l : List Bool) : Bool := decide (nibble_Step.f (prt l) true = some (prt (l ++ [true]), false, 0, 0)) && decide (nibble_Step.f (prt l) false = some (prt (l ++ [false]), false, 0, 0))
set_option maxRecDepth 100000 in
theorem okL_all : ∀ l ∈ lists 7, okL l = true := by decide +kernel
set_option maxRecDepth 100000 in
theorem okS_all : ∀ l ∈ lists 6, okS l = true := by decide +kernel
theorem of_ok {l : List Bool} (h : l.length ≤ 7) : nibble_Of.f 40 l = some (prt l, 0) ∧ nibble_Bits.f 40 (prt l) = some (l, 0) := by
  have := okL_all l (mem_lists 7 l h)
  simp only [okL, Bool.and_eq_true, decide_eq_true_eq] at this
  exact this
theorem step_ok {l : List Bool} (h : l.length ≤ 6) (b : Bool) : nibble_Step.f (prt l) b = some (prt (l ++ [b]), false, 0, 0) := by
  have := okS_all l (mem_lists 6 l h)
  simp only [okS, Bool.and_eq_true, decide_eq_true_eq] at this
  cases b
  · exact this.2
  · exact this.1
theorem prt_nil : prt [] = 1 := by decide +kernel
end Go.Proofs.Ytnbfpchbaghmfaa.Nib
namespace Go.Proofs.Ytnbfpchbaghmfaa.Pure
open Go Go.RowKit Go.Proofs.Ytnbfpchbaghmfaa.QN1 Go.Proofs.Ytnbfpchbaghmfaa.Nib Go.Proofs.YtnbfpchbaghmfaaW.PrintWords Go.Proofs.YtnbfpchbaghmfaaW.PrintLast Go.Proofs.YtnbfpchbaghmfaaW.PrintMore
theorem back_j0 (v : Int) (l : List Bool) : bitloftlaw14_NibbleBack.j0 45 l true true v = some true := by
  rw [bitloftlaw14_NibbleBack.j0.eq_2, if_pos rfl]
theorem back_l0 (v : Int) (l : List Bool) (hl : l.length ≤ 7) : ∀ (d k i : Nat), i + d = l.length → d + 10 < k → bitloftlaw14_NibbleBack.l0 k l true 0 0 0 l 0 (i : Int) v v (prt l) (prt (l.take i)) = some true := by
  intro d
  induction d with
  | zero =>
    intro k i hi hk
    obtain ⟨k, rfl⟩ : ∃ m, k = m + 1 := ⟨k - 1, by omega⟩
    rw [bitloftlaw14_NibbleBack.l0.eq_2, if_neg (by omega), if_pos rfl, if_pos rfl, if_pos rfl, if_pos (beq_self_eq_true v), if_pos rfl, if_pos rfl, Same_ok l l (by omega) (by omega), Option.bind_some, if_pos (decide_eq_true rfl), List.take_of_length_le (by omega), beq_self_eq_true]
  | succ d ih =>
    intro k i hi hk
    obtain ⟨k, rfl⟩ : ∃ m, k = m + 1 := ⟨k - 1, by omega⟩
    have hlt : i < l.length := by omega
    have e : rdOf false l (i : Int) = l[i] := by
      unfold rdOf
      rw [Int.toNat_natCast, List.getD_eq_getElem?_getD, List.getElem?_eq_getElem hlt]
      rfl
    have t : l.take i ++ [l[i]] = l.take (i + 1) := by rw [List.take_succ_eq_append_getElem hlt]
    rw [bitloftlaw14_NibbleBack.l0.eq_2, if_pos (by omega), if_pos (by omega), e, step_ok (by rw [List.length_take]; omega), Option.bind_some, if_pos rfl, if_neg (show ¬ (false = true) by decide), t, IntWalk.wrap64_in _ (by omega), show (i : Int) + 1 = ((i + 1 : Nat) : Int) by omega]
    exact ih k (i + 1) (by omega) (by omega)
theorem NibbleBack (v : Int) (l : List Bool) (_ : (Lit.int .i64 v).wf = true) : ∃ k, bitloftlaw14_NibbleBack.f k v l = some true := by
  refine ⟨45, ?_⟩
  unfold bitloftlaw14_NibbleBack.f
  rw [alive14 (by decide), Option.bind_some]
  by_cases c : v < 1 ∨ 255 < v
  · rw [(chk_no c).1, Option.bind_some, if_neg (by decide)]
    exact back_j0 v l
  have v1 : 1 ≤ v := by omega
  have v2 : v ≤ 255 := by omega
  rw [(chk_ok v1 v2).1, Option.bind_some, if_pos rfl]
  by_cases d : (l.length : Int) > 7
  · rw [if_pos d]
    exact back_j0 v l
  rw [if_neg d, Bool.not_true]
  have a := wk v1 v2
  obtain ⟨o1, o2⟩ := of_ok (l := l) (by omega)
  have n1 : nibble_Bits.f 44 v = some (bts v, 0) := up (nibble_Bits.mono _) (by decide) a.bits
  have n2 : nibble_Of.f 44 (bts v) = some (v, 0) := up (nibble_Of.mono _) (by decide) a.of
  have n3 : nibble_Of.f 44 l = some (prt l, 0) := up (nibble_Of.mono _) (by decide) o1
  have n4 : nibble_Bits.f 44 (prt l) = some (l, 0) := up (nibble_Bits.mono _) (by decide) o2
  rw [bitloftlaw14_NibbleBack.j0.eq_2, if_neg (by decide), n1, Option.bind_some, n2, Option.bind_some, n3, Option.bind_some, n4, Option.bind_some, show nibble_New.f = some 1 from rfl, Option.bind_some, ← prt_nil]
  exact back_l0 v l (by omega) l.length 44 0 (by omega) (by omega)
end Go.Proofs.Ytnbfpchbaghmfaa.Pure
