/- CostBytes: the bytes that a run gives out, its cost and the size of its last range say the same. -/
import Derived.Test.YtgapkifgddjijaaCRun2
import Derived.Test.YtgapkifgddjijaaQCx6
import Derived.Test.YtgapkifgddjijaaQCx7
import Derived.OpenShut
namespace Go.Proofs.Ytgapkifgddjijaa.Pure
open Go Go.RowKit Go.Proofs.Ytgapkifgddjijaa.QC Go.Proofs.Ytgapkifgddjijaa.Enc Go.Proofs.Ytgapkifgddjijaa.EncC Go.Proofs.YtgapkifgddjijaaW.PrintWords Go.Proofs.YtgapkifgddjijaaW.PrintLast
theorem alive23 {K : Nat} (hK : 140 ≤ K) : bitloftlaw23_alive.f K = some true := at_rounds bitloftlaw23_alive.mono hK (by decide +kernel)
theorem rcheck0 {x1 x2 : Int} (h : Va x1 x2) (l : List Int) (hl : l.length ≤ 20000) : bitloftref20_Check.f x1 x2 l = some 0 := by
  obtain ⟨⟨a, b, c⟩, n⟩ := h
  unfold bitloftref20_Check.f
  rw [if_neg (by omega), td (by omega), td (by omega), if_neg (by omega), if_neg (by omega)]
theorem bytes_l0 (ps : List Int) (bs : List Bool) (hn : ps.length ≤ 200) (hb : ps.length = bs.length) (hp : ∀ p ∈ ps, 1 ≤ p ∧ p ≤ 4095) (n m z1 z2 : Int) (hm : 0 ≤ m) (hm1 : m ≤ 8000) : ∀ (d k : Nat) (i : Nat) (x1 x2 : Int) (o : List Int), i + d = ps.length → d + 30 < k → Va x1 x2 → o.length ≤ 4 * i →
    (rr x1 x2 (ps.drop i) (bs.drop i)).2.2 = (z1, z2) → (rr x1 x2 (ps.drop i) (bs.drop i)).2.1 + (o.length : Int) = m → n = 2097152 + 524288 * m - L (z2 - z1 + 1) →
    bitloftlaw23_CostBytes.l0 k ps bs true n 0 m 0 (i : Int) x1 x2 o = some true := by
  intro d
  induction d with
  | zero =>
    intro k i x1 x2 o hi hk h ho hz hg hN
    obtain ⟨k, rfl⟩ : ∃ m, k = m + 1 := ⟨k - 1, by omega⟩
    rw [List.drop_eq_nil_of_le (by omega)] at hz hg
    simp only [rr] at hz hg
    obtain ⟨rfl, rfl⟩ := Prod.mk.inj hz
    obtain ⟨⟨a, b, c⟩, ne⟩ := h
    have l2 := L_mono (n := 2) (m := x2 - x1 + 1) (by omega) (by omega)
    have la := L_le (n := x2 - x1 + 1) (by omega) (by omega)
    rw [L_2] at l2
    have lg : cost_Log.f k (x2 - x1 + 1) = some (L (x2 - x1 + 1), 0) := by
      unfold cost_Log.f
      rw [if_neg (by omega), if_neg (by omega), log_L (by omega) (by omega) (by omega), Option.bind_some]
    rw [bitloftlaw23_CostBytes.l0.eq_2, if_neg (by omega), u64_id (n := x1) (by omega) (by omega), u64_id (n := x2) (by omega) (by omega), u64_id (n := x2 - x1) (by omega) (by omega), u64_id (n := x2 - x1 + 1) (by omega) (by omega), lg, Option.bind_some, if_pos rfl, if_pos rfl, if_pos rfl, if_pos rfl, if_pos (by omega)]
    rw [IntWalk.wrap64_in (524288 * m) (by omega), IntWalk.wrap64_in (n - 2097152) (by omega), IntWalk.wrap64_in (n - 2097152 + _) (by omega), IntWalk.wrap64_in (m + 4) (by omega), IntWalk.wrap64_in (524288 * (m + 4)) (by omega), if_pos (by omega), if_pos (by omega), decide_eq_true (by omega)]
  | succ d ih =>
    intro k i x1 x2 o hi hk h ho hz hg hN
    obtain ⟨k, rfl⟩ : ∃ m, k = m + 1 := ⟨k - 1, by omega⟩
    have hl : i < ps.length := by omega
    have hl' : i < bs.length := by omega
    obtain ⟨p0, p1⟩ := hp ps[i] (List.getElem_mem hl)
    obtain ⟨y1, y2, e, g, va, el, _⟩ := stp_va h.ok p0 p1 bs[i]
    rw [List.drop_eq_getElem_cons hl, List.drop_eq_getElem_cons hl'] at hz hg
    simp only [rr] at hz hg
    rw [g []] at hz hg
    simp only [List.nil_append] at hz hg
    rw [bitloftlaw23_CostBytes.l0.eq_2, if_pos (by omega), if_pos (by omega), if_pos (by omega), rd_at hl, rb_at hl', put0 (by omega) h p0 p1 bs[i] o (by omega) g el, Option.bind_some, if_pos rfl, rcheck0 va _ (by rw [List.length_append]; omega), Option.bind_some, if_pos rfl, IntWalk.wrap64_in _ (by omega), show (i : Int) + 1 = ((i + 1 : Nat) : Int) by omega]
    exact ih k (i + 1) y1 y2 (o ++ e) (by omega) (by omega) va (by rw [List.length_append]; omega) hz (by rw [List.length_append]; omega) hN
theorem CostBytes (ps : List Int) (bs : List Bool) (_ : ∀ n ∈ ps, (Lit.int .i64 n).wf = true) : ∃ k, bitloftlaw23_CostBytes.f k ps bs = some true := by
  refine ⟨2201, ?_⟩
  have skip : bitloftlaw23_CostBytes.j0 2201 ps bs true true = some true := by rw [bitloftlaw23_CostBytes.j0.eq_2, if_pos rfl]
  unfold bitloftlaw23_CostBytes.f
  rw [alive23 (by decide), Option.bind_some]
  by_cases c : (bs.length : Int) > 200
  · rw [if_pos c]; exact skip
  rw [if_neg c, Lists_ok (by decide), Option.bind_some]
  by_cases d : prs1 ps bs.length = 0
  rotate_left
  · rw [if_neg d]; exact skip
  rw [if_pos d, Bool.not_true]
  obtain ⟨_, hb, hp⟩ := prs1_zero d
  obtain ⟨n, g, z1, z2, e1, n0, n1, m0, m1, vz, tel⟩ := rr_ok ps bs 0 4294967295 va0 hp
  have r1 : reals ps bs = (n, 0) := by unfold reals; rw [if_pos d, e1]
  have r2 : bytess ps bs = (g, 0) := by unfold bytess; rw [if_pos d, e1]
  have new : encoder_New.f = some (0, 4294967295, []) := rfl
  rw [show (4294967295 : Int) - 0 + 1 = 4294967296 by decide, L_all] at tel
  rw [bitloftlaw23_CostBytes.j0.eq_2, if_neg (by decide), (Real_ok (by decide) ps bs).1, r1, Option.bind_some, (Bytes_ok (by decide) ps bs).1, r2, Option.bind_some, new, Option.bind_some]
  exact bytes_l0 ps bs (by omega) hb hp n g z1 z2 m0 (by omega) ps.length 2200 0 0 4294967295 [] (by omega) (by omega) va0 (by decide) (by rw [List.drop_zero, List.drop_zero, e1]) (by rw [List.drop_zero, List.drop_zero, e1]; simp) tel
end Go.Proofs.Ytgapkifgddjijaa.Pure
