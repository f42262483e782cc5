/- NibbleWalks: New, Check, Step, Node, Second, Bits, Of and Path return what the reference returns. -/
import Derived.Test.YtnbfpchbaghmfaaNibMath
import Derived.Test.YtnbfpchbaghmfaaQN1x3
import Derived.Test.YtnbfpchbaghmfaaQN1x5
import Derived.Test.YtnbfpchbaghmfaaQN1x7
import Derived.Test.YtnbfpchbaghmfaaQN1x8
import Derived.OpenShut
namespace Go.Proofs.Ytnbfpchbaghmfaa.Nib
open Go Go.RowKit Go.Proofs.Ytnbfpchbaghmfaa.QN1 Go.Proofs.YtnbfpchbaghmfaaW.PrintWords Go.Proofs.YtnbfpchbaghmfaaW.PrintLast Go.Proofs.YtnbfpchbaghmfaaW.PrintMore
instance four : DecidableEq (Int × Int × Int × Int) := inferInstance
instance six : DecidableEq (Int × Int × Int × Int × Int × Int) := inferInstance
instance eight : DecidableEq (Int × Int × Int × Int × Int × Int × Int × Int) := inferInstance
/-- Two answers are the same, and are answers. -/
def two {α : Type} [DecidableEq α] (a b : Option α) : Bool := a.isSome && decide (a = b)
theorem two_ok {α : Type} [DecidableEq α] {a b : Option α} (h : two a b = true) : ∃ r, a = some r ∧ b = some r := by
  simp only [two, Bool.and_eq_true, decide_eq_true_eq] at h
  obtain ⟨r, hr⟩ := Option.isSome_iff_exists.1 h.1
  exact ⟨r, hr, by rw [← h.2, hr]⟩
def okV (v : Int) : Bool := two (nibble_Step.f v true) (bitloftref14_Step.f 40 v true) && two (nibble_Step.f v false) (bitloftref14_Step.f 40 v false) && two (nibble_Node.f 40 v) (bitloftref14_Node.f 40 v) && two (nibble_Second.f v) (bitloftref14_Second.f 40 v) && two (nibble_Bits.f 40 v) (bitloftref14_Bits.f 40 v) && decide (((nibble_Bits.f 40 v).getD ([], 0)).1.length ≤ 7)
set_option maxRecDepth 100000 in
theorem okV_all : ∀ n : Fin 256, 1 ≤ n.val → okV (n.val : Int) = true := by decide +kernel
set_option maxRecDepth 100000 in
theorem okP_all : ∀ n : Fin 256, two (nibble_Path.f 40 (n.val : Int)) (bitloftref14_Path.f 40 (n.val : Int)) = true := by decide +kernel
set_option maxRecDepth 100000 in
theorem okO_all : ∀ l ∈ lists 7, two (nibble_Of.f 40 l) (bitloftref14_Of.f 40 l) = true := by decide +kernel
theorem path_ok {b : Int} (h1 : 0 ≤ b) (h2 : b ≤ 255) : ∃ r, nibble_Path.f 40 b = some r ∧ bitloftref14_Path.f 40 b = some r := by
  have h := two_ok (okP_all ⟨b.toNat, by omega⟩)
  rwa [show (((⟨b.toNat, by omega⟩ : Fin 256).val : Nat) : Int) = b by show ((b.toNat : Nat) : Int) = b; omega] at h
theorem of_two (l : List Bool) : ∃ r, nibble_Of.f 40 l = some r ∧ bitloftref14_Of.f 40 l = some r := by
  by_cases c : (l.length : Int) > 7
  · unfold nibble_Of.f bitloftref14_Of.f
    rw [if_pos c, if_pos c]
    exact ⟨_, rfl, rfl⟩
  · exact two_ok (okO_all l (mem_lists 7 l (by omega)))
structure Vs (v : Int) (b : Bool) : Prop where
  step : ∃ r, nibble_Step.f v b = some r ∧ bitloftref14_Step.f 40 v b = some r
  node : ∃ r, nibble_Node.f 40 v = some r ∧ bitloftref14_Node.f 40 v = some r
  second : ∃ r, nibble_Second.f v = some r ∧ bitloftref14_Second.f 40 v = some r
  bits : ∃ r, nibble_Bits.f 40 v = some r ∧ bitloftref14_Bits.f 40 v = some r ∧ r.1.length ≤ 7
  check : ∃ r, nibble_Check.f v = some r ∧ bitloftref14_Check.f v = some r
theorem vs (v : Int) (b : Bool) : Vs v b := by
  by_cases c : v < 1 ∨ 255 < v
  · obtain ⟨h1, h2⟩ := chk_no c
    constructor
    · unfold nibble_Step.f bitloftref14_Step.f
      simp only [h1, h2, Option.bind_some]
      exact ⟨_, rfl, rfl⟩
    · unfold nibble_Node.f bitloftref14_Node.f
      simp only [h1, h2, Option.bind_some]
      exact ⟨_, rfl, rfl⟩
    · unfold nibble_Second.f bitloftref14_Second.f
      simp only [h1, h2, Option.bind_some]
      exact ⟨_, rfl, rfl⟩
    · unfold nibble_Bits.f bitloftref14_Bits.f
      simp only [h1, h2, Option.bind_some]
      exact ⟨_, rfl, rfl, by decide⟩
    · exact ⟨8, h2, h1⟩
  · have h := okV_all ⟨v.toNat, by omega⟩ (by show 1 ≤ v.toNat; omega)
    rw [show (((⟨v.toNat, by omega⟩ : Fin 256).val : Nat) : Int) = v by show ((v.toNat : Nat) : Int) = v; omega] at h
    simp only [okV, Bool.and_eq_true, decide_eq_true_eq] at h
    obtain ⟨⟨⟨⟨⟨h1, h2⟩, h3⟩, h4⟩, h5⟩, h6⟩ := h
    obtain ⟨k1, k2⟩ := chk_ok (v := v) (by omega) (by omega)
    refine ⟨?_, two_ok h3, two_ok h4, ?_, ⟨0, k2, k1⟩⟩
    · cases b
      · exact two_ok h2
      · exact two_ok h1
    · obtain ⟨r, a, b⟩ := two_ok h5
      rw [a] at h6
      exact ⟨r, a, b, h6⟩
end Go.Proofs.Ytnbfpchbaghmfaa.Nib
namespace Go.Proofs.Ytnbfpchbaghmfaa.Pure
open Go Go.RowKit Go.Proofs.Ytnbfpchbaghmfaa.QN1 Go.Proofs.Ytnbfpchbaghmfaa.Nib Go.Proofs.YtnbfpchbaghmfaaW.PrintWords Go.Proofs.YtnbfpchbaghmfaaW.PrintLast Go.Proofs.YtnbfpchbaghmfaaW.PrintMore
theorem NibbleWalks (v : Int) (bit : Bool) (b : Int) (l : List Bool) (_ : (Lit.int .i64 v).wf = true) (wb : (Lit.int .u8 b).wf = true) : ∃ k, bitloftlaw14_NibbleWalks.f k v bit b l = some true := by
  refine ⟨45, ?_⟩
  unfold bitloftlaw14_NibbleWalks.f
  by_cases c : (l.length : Int) > 100
  · rw [if_pos c]
  rw [if_neg c]
  obtain ⟨b0, b1⟩ := bounds_u8 wb
  obtain ⟨⟨r1, s1, t1⟩, ⟨r2, s2, t2⟩, ⟨r3, s3, t3⟩, ⟨r4, s4, t4, u4⟩, ⟨r5, s5, t5⟩⟩ := vs v bit
  obtain ⟨r6, s6, t6⟩ := of_two l
  obtain ⟨r7, s7, t7⟩ := path_ok b0 b1
  have t1' : bitloftref14_Step.f 45 v bit = some r1 := up (bitloftref14_Step.mono _ _) (by decide) t1
  have s2' : nibble_Node.f 45 v = some r2 := up (nibble_Node.mono _) (by decide) s2
  have t2' : bitloftref14_Node.f 45 v = some r2 := up (bitloftref14_Node.mono _) (by decide) t2
  have t3' : bitloftref14_Second.f 44 v = some r3 := up (bitloftref14_Second.mono _) (by decide) t3
  have s4' : nibble_Bits.f 44 v = some r4 := up (nibble_Bits.mono _) (by decide) s4
  have t4' : bitloftref14_Bits.f 44 v = some r4 := up (bitloftref14_Bits.mono _) (by decide) t4
  have s6' : nibble_Of.f 44 l = some r6 := up (nibble_Of.mono _) (by decide) s6
  have t6' : bitloftref14_Of.f 44 l = some r6 := up (bitloftref14_Of.mono _) (by decide) t6
  have s7' : nibble_Path.f 44 b = some r7 := up (nibble_Path.mono _) (by decide) s7
  have t7' : bitloftref14_Path.f 44 b = some r7 := up (bitloftref14_Path.mono _) (by decide) t7
  have sm : bitloftref14_Same.f 44 r4.1 r4.1 = some true := (Same_ok r4.1 r4.1 (by omega) (by omega)).trans (congrArg some (decide_eq_true rfl))
  rw [s1, Option.bind_some, t1', Option.bind_some, s2', Option.bind_some, t2', Option.bind_some]
  simp only [beq_self_eq_true, Bool.not_true, bne_self_eq_false, Bool.false_eq_true, if_false, if_true]
  rw [bitloftlaw14_NibbleWalks.j0.eq_2, if_neg (by decide), s3, Option.bind_some, t3', Option.bind_some, s4', Option.bind_some, t4', Option.bind_some, s6', Option.bind_some, t6', Option.bind_some, show nibble_New.f = some 1 from rfl, Option.bind_some, s5, t5]
  simp only [Option.bind_some, beq_self_eq_true, if_true, sm, s7', t7', Bool.and_true]
end Go.Proofs.Ytnbfpchbaghmfaa.Pure
