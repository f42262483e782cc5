/- CostParts: the cost of a list is that of its parts; a beginning costs no more. -/
import Derived.Test.YtgapkifgddjijaaCRun2
import Derived.Test.YtgapkifgddjijaaQCx6
import Derived.Test.YtgapkifgddjijaaQCx8
import Derived.OpenShut
namespace Go.Proofs.Ytgapkifgddjijaa.Pure
open Go Go.RowKit Go.Proofs.Ytgapkifgddjijaa.QC Go.Proofs.Ytgapkifgddjijaa.Enc Go.Proofs.Ytgapkifgddjijaa.EncC Go.Proofs.YtgapkifgddjijaaW.PrintWords Go.Proofs.YtgapkifgddjijaaW.PrintLast
theorem alive23p {K : Nat} (hK : 140 ≤ K) : bitloftlaw23_alive.f K = some true := at_rounds bitloftlaw23_alive.mono hK (by decide +kernel)
theorem isum_cut : ∀ (j : Nat) (ps : List Int) (bs : List Bool), ps.length = bs.length → isum ps bs = isum (ps.take j) (bs.take j) + isum (ps.drop j) (bs.drop j) := by
  intro j
  induction j with
  | zero => intro ps bs _; simp [isum]
  | succ j ih =>
    intro ps bs h
    cases ps with
    | nil => simp [isum]
    | cons p ps =>
      cases bs with
      | nil => cases h
      | cons b bs =>
        simp only [List.length_cons, Nat.add_right_cancel_iff] at h
        simp only [List.take_succ_cons, List.drop_succ_cons, isum]
        rw [ih ps bs h, Int.add_assoc]
theorem rr_cut : ∀ (j : Nat) (ps : List Int) (bs : List Bool) (x1 x2 : Int), Va x1 x2 → ps.length = bs.length → (∀ p ∈ ps, 1 ≤ p ∧ p ≤ 4095) →
    (rr x1 x2 (ps.take j) (bs.take j)).1 ≤ (rr x1 x2 ps bs).1 ∧ (rr x1 x2 (ps.take j) (bs.take j)).2.1 ≤ (rr x1 x2 ps bs).2.1 := by
  intro j
  induction j with
  | zero =>
    intro ps bs x1 x2 v _ hp
    obtain ⟨n, g, z1, z2, e1, n0, n1, m0, m1, vz, tel⟩ := rr_ok ps bs x1 x2 v hp
    rw [e1]
    simp only [List.take_zero, rr]
    exact ⟨n0, m0⟩
  | succ j ih =>
    intro ps bs x1 x2 v h hp
    cases ps with
    | nil => simp [rr]
    | cons p ps =>
      cases bs with
      | nil => cases h
      | cons b bs =>
        simp only [List.length_cons, Nat.add_right_cancel_iff] at h
        obtain ⟨p0, p1⟩ := hp p (List.mem_cons_self ..)
        obtain ⟨y1, y2, e, g, va, el, _⟩ := stp_va v.ok p0 p1 b
        simp only [List.take_succ_cons, rr]
        rw [g []]
        simp only [List.nil_append]
        obtain ⟨a, c⟩ := ih ps bs y1 y2 va h (fun q hq => hp q (List.mem_cons_of_mem _ hq))
        exact ⟨by omega, by omega⟩
theorem CostParts (ps : List Int) (bs : List Bool) (at_ : Int) (_ : ∀ n ∈ ps, (Lit.int .i64 n).wf = true) (_ : (Lit.int .i64 at_).wf = true) : ∃ k, bitloftlaw23_CostParts.f k ps bs at_ = some true := by
  refine ⟨2201, ?_⟩
  have skip : bitloftlaw23_CostParts.j0 2201 ps bs at_ true true = some true := by rw [bitloftlaw23_CostParts.j0.eq_2, if_pos rfl]
  unfold bitloftlaw23_CostParts.f
  rw [alive23p (by decide), Option.bind_some]
  by_cases c : (bs.length : Int) > 100
  · rw [if_pos c]; exact skip
  rw [if_neg c, Lists_ok (by decide), Option.bind_some]
  by_cases d : prs1 ps bs.length = 0
  rotate_left
  · rw [if_neg d]; exact skip
  rw [if_pos d]
  by_cases a0 : at_ < 0
  · rw [if_pos a0]; exact skip
  rw [if_neg a0]
  by_cases a1 : at_ > (bs.length : Int)
  · rw [if_pos a1]; exact skip
  rw [if_neg a1, Bool.not_true]
  obtain ⟨h0, hb, hp⟩ := prs1_zero d
  obtain ⟨j, rfl⟩ := Int.eq_ofNat_of_zero_le (show 0 ≤ at_ by omega)
  have dt : prs1 (ps.take j) (bs.take j).length = 0 := prs1_mk (by rw [List.length_take]; omega) (by rw [List.length_take, List.length_take, hb]) (fun p h => hp p (List.mem_of_mem_take h))
  have dd : prs1 (ps.drop j) (bs.drop j).length = 0 := prs1_mk (by rw [List.length_drop]; omega) (by rw [List.length_drop, List.length_drop, hb]) (fun p h => hp p (List.mem_of_mem_drop h))
  have i0 : ideals ps bs = (isum ps bs, 0) := if_pos d
  have i1 : ideals (ps.take j) (bs.take j) = (isum (ps.take j) (bs.take j), 0) := if_pos dt
  have i2 : ideals (ps.drop j) (bs.drop j) = (isum (ps.drop j) (bs.drop j), 0) := if_pos dd
  have r0 : reals ps bs = ((rr 0 4294967295 ps bs).1, 0) := if_pos d
  have r1 : reals (ps.take j) (bs.take j) = ((rr 0 4294967295 (ps.take j) (bs.take j)).1, 0) := if_pos dt
  have b0 : bytess ps bs = ((rr 0 4294967295 ps bs).2.1, 0) := if_pos d
  have b1 : bytess (ps.take j) (bs.take j) = ((rr 0 4294967295 (ps.take j) (bs.take j)).2.1, 0) := if_pos dt
  have s := isum_cut j ps bs hb
  have s0 := isum_in ps bs hp
  obtain ⟨q0, q1⟩ := rr_cut j ps bs 0 4294967295 va0 hb hp
  rw [bitloftlaw23_CostParts.j0.eq_2, if_neg (by decide), (Ideal_ok (by decide) ps bs).1, i0, Option.bind_some, if_pos (by omega), if_pos (by omega), if_pos (by omega), Int.toNat_natCast]
  rw [(Ideal_ok (by decide) (ps.take j) (bs.take j)).1, i1, Option.bind_some, (Ideal_ok (by decide) (ps.drop j) (bs.drop j)).1, i2, Option.bind_some, (Real_ok (by decide) ps bs).1, r0, Option.bind_some, (Real_ok (by decide) (ps.take j) (bs.take j)).1, r1, Option.bind_some, (Bytes_ok (by decide) ps bs).1, b0, Option.bind_some, (Bytes_ok (by decide) (ps.take j) (bs.take j)).1, b1, Option.bind_some]
  rw [if_pos rfl, if_pos rfl, if_pos rfl, if_pos rfl, if_pos rfl, if_pos rfl, if_pos rfl, if_pos rfl]
  simp only []
  rw [IntWalk.wrap64_in _ (by omega), if_pos s, if_pos q0, decide_eq_true q1]
end Go.Proofs.Ytgapkifgddjijaa.Pure
