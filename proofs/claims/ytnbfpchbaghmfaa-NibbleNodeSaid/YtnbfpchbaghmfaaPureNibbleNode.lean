/- NibbleNode: with Second, the node tells the bits of the nibble that were read. -/
import Derived.Test.YtnbfpchbaghmfaaNibMath
import Derived.Test.YtnbfpchbaghmfaaQN1x5
import Derived.OpenShut
namespace Go.Proofs.Ytnbfpchbaghmfaa.Pure
open Go Go.RowKit Go.Proofs.Ytnbfpchbaghmfaa.QN1 Go.Proofs.Ytnbfpchbaghmfaa.Nib Go.Proofs.YtnbfpchbaghmfaaW.PrintWords Go.Proofs.YtnbfpchbaghmfaaW.PrintLast Go.Proofs.YtnbfpchbaghmfaaW.PrintMore
theorem node_j0 (v w : Int) : bitloftlaw14_NibbleNode.j0 45 true true v w = some true := by
  rw [bitloftlaw14_NibbleNode.j0.eq_2, if_pos rfl]
theorem NibbleNode (v w : Int) (_ : (Lit.int .i64 v).wf = true) (_ : (Lit.int .i64 w).wf = true) : ∃ k, bitloftlaw14_NibbleNode.f k v w = some true := by
  refine ⟨45, ?_⟩
  unfold bitloftlaw14_NibbleNode.f
  rw [alive14 (by decide), Option.bind_some]
  by_cases c : v < 1 ∨ 255 < v
  · rw [(chk_no c).1, Option.bind_some, if_neg (by decide)]
    exact node_j0 v w
  have v1 : 1 ≤ v := by omega
  have v2 : v ≤ 255 := by omega
  rw [(chk_ok v1 v2).1, Option.bind_some, if_pos rfl]
  by_cases d : w < 1 ∨ 255 < w
  · rw [(chk_no d).1, Option.bind_some, if_neg (by decide)]
    exact node_j0 v w
  have w1 : 1 ≤ w := by omega
  have w2 : w ≤ 255 := by omega
  rw [(chk_ok w1 w2).1, Option.bind_some, if_pos rfl, Bool.not_true]
  have a := wk v1 v2
  have b := wk w1 w2
  have n1 : nibble_Node.f 44 v = some (nd v, 0) := up (nibble_Node.mono _) (by decide) a.node
  have n2 : nibble_Node.f 44 w = some (nd w, 0) := up (nibble_Node.mono _) (by decide) b.node
  have b1 : nibble_Bits.f 44 v = some (bts v, 0) := up (nibble_Bits.mono _) (by decide) a.bits
  have b2 : nibble_Bits.f 44 w = some (bts w, 0) := up (nibble_Bits.mono _) (by decide) b.bits
  have p1 : bitloftref14_Part.f 42 (rst v) = some (nd v) := up (bitloftref14_Part.mono _) (by decide) a.part
  have p2 : bitloftref14_Part.f 42 (rst w) = some (nd w) := up (bitloftref14_Part.mono _) (by decide) b.part
  have al := a.len
  have bl := b.len
  have rl : (rst v).length ≤ 7 := by
    unfold rst
    split
    · rw [List.length_drop]; omega
    · exact al
  have sm : bitloftref14_Same.f 42 (rst v) (rst w) = some (decide (rst v = rst w)) := Same_ok _ _ (by omega) (by omega)
  have eq : ((nd v == nd w) == decide (rst v = rst w)) = true := by
    rw [beq_iff_eq]
    by_cases e : nd v = nd w
    · rw [a.rest, b.rest, e, beq_self_eq_true]
      exact (decide_eq_true rfl).symm
    · rw [beq_eq_false_iff_ne.2 e]
      refine (decide_eq_false fun h => e ?_).symm
      rw [h] at p1
      exact Option.some.inj (p1.symm.trans p2)
  have s1 := a.second
  have s2 := b.second
  have al' := a.lo
  have ah' := a.hi
  have bl' := b.lo
  have bh' := b.hi
  have q1 : (decide (v > 15) != decide (((bts v).length : Int) ≥ 4)) = false := by
    rw [s1, bne_eq_false_iff_eq]
    exact decide_eq_decide.2 (by omega)
  have q2 : (decide (w > 15) != decide (((bts w).length : Int) ≥ 4)) = false := by
    rw [s2, bne_eq_false_iff_eq]
    exact decide_eq_decide.2 (by omega)
  rw [bitloftlaw14_NibbleNode.j0.eq_2, if_neg (by decide), n1, Option.bind_some, n2, Option.bind_some, second_ok v1 v2, Option.bind_some, second_ok w1 w2, Option.bind_some, b1, Option.bind_some, b2, Option.bind_some]
  rw [if_pos rfl, if_pos rfl, if_pos rfl, if_pos rfl, if_pos rfl, if_pos rfl, if_neg (by omega), if_neg (by omega), if_neg (by omega), if_neg (by omega)]
  simp only [q1, q2, Bool.false_eq_true, if_false]
  have four : (4 : Int).toNat = 4 := rfl
  have end_ : bitloftlaw14_NibbleNode.j2 43 true (nd v) (nd w) (decide (w > 15)) (rst v) (bts w) = some true := by
    rw [bitloftlaw14_NibbleNode.j2.eq_2]
    by_cases g : w > 15
    · have hl : 4 ≤ (bts w).length := by rw [decide_eq_true g] at s2; exact of_decide_eq_true s2.symm
      have r2 : rst w = (bts w).drop 4 := by unfold rst; rw [if_pos g]
      rw [if_pos (decide_eq_true g), if_pos (by omega), Option.bind_some, if_pos rfl, p1, Option.bind_some, if_pos rfl, four, ← r2, p2, Option.bind_some, if_pos rfl, sm, Option.bind_some, eq]
    · have r2 : rst w = bts w := by unfold rst; rw [if_neg g]
      rw [if_neg (by rw [decide_eq_false g]; decide), if_pos rfl, p1, Option.bind_some, if_pos rfl, ← r2, p2, Option.bind_some, if_pos rfl, sm, Option.bind_some, eq]
  rw [bitloftlaw14_NibbleNode.j1.eq_2, if_neg (by decide)]
  by_cases g : v > 15
  · have hl : 4 ≤ (bts v).length := by rw [decide_eq_true g] at s1; exact of_decide_eq_true s1.symm
    have r1 : rst v = (bts v).drop 4 := by unfold rst; rw [if_pos g]
    rw [if_pos (decide_eq_true g), if_pos (by omega), four, ← r1]
    exact end_
  · have r1 : rst v = bts v := by unfold rst; rw [if_neg g]
    rw [if_neg (by rw [decide_eq_false g]; decide), ← r1]
    exact end_
end Go.Proofs.Ytnbfpchbaghmfaa.Pure
