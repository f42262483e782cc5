/- Whole runs: what they cost in truth, and how many bytes they give out. -/
import Derived.Test.YtgapkifgddjijaaCRun
import Derived.Test.YtgapkifgddjijaaQCx3
import Derived.Test.YtgapkifgddjijaaQCx5
import Derived.Test.YtgapkifgddjijaaQCx6
namespace Go.Proofs.Ytgapkifgddjijaa.EncC
open Go Go.RowKit Go.Proofs.Ytgapkifgddjijaa.Enc Go.Proofs.Ytgapkifgddjijaa.QC Go.Proofs.YtgapkifgddjijaaW.PrintWords Go.Proofs.YtgapkifgddjijaaW.PrintLast Go.Proofs.YtgapkifgddjijaaW.PrintMore
/-- The cost of a run, the bytes that it gives out, and the range behind it. -/
noncomputable def rr : Int → Int → List Int → List Bool → Int × Int × Int × Int
  | x1, x2, p :: ps, b :: bs => (cst x1 x2 p b + (rr (stp x1 x2 p b []).1 (stp x1 x2 p b []).2.1 ps bs).1, ((stp x1 x2 p b []).2.2.length : Int) + (rr (stp x1 x2 p b []).1 (stp x1 x2 p b []).2.1 ps bs).2.1, (rr (stp x1 x2 p b []).1 (stp x1 x2 p b []).2.1 ps bs).2.2)
  | x1, x2, [], _ => (0, 0, x1, x2)
  | x1, x2, _ :: _, [] => (0, 0, x1, x2)
/-- A range that begins with two bytes. -/
structure Va (x1 x2 : Int) : Prop where
  ok : Ok x1 x2
  ne : x1 / 16777216 ≠ x2 / 16777216
theorem va0 : Va 0 4294967295 := ⟨⟨by decide, by decide, by decide⟩, by decide⟩
theorem stp_va {x1 x2 p : Int} (h : Ok x1 x2) (h0 : 1 ≤ p) (h1 : p ≤ 4095) (b : Bool) : ∃ y1 y2 e, (∀ o, stp x1 x2 p b o = (y1, y2, o ++ e)) ∧ Va y1 y2 ∧ e.length ≤ 4 ∧ y2 - y1 + 1 = prt x1 x2 p b * 256 ^ e.length := by
  obtain ⟨y1, y2, e, g, ok, ne, el, _, sz, _⟩ := stp_ok h (show 0 ≤ p by omega) h1 b
  exact ⟨y1, y2, e, g, ⟨ok, ne⟩, el, sz⟩
theorem put0 {k : Nat} (hk : 5 ≤ k) {x1 x2 p : Int} (h : Va x1 x2) (h0 : 1 ≤ p) (h1 : p ≤ 4095) (b : Bool) (o : List Int) (ho : o.length + 4 ≤ 20000) {y1 y2 : Int} {e : List Int} (g : ∀ o, stp x1 x2 p b o = (y1, y2, o ++ e)) (he : e.length ≤ 4) :
    encoder_Put.f k x1 x2 o p b = some (y1, y2, o ++ e, 0) := by
  have a : encoder_Put.f k x1 x2 o p b = Hand.Putf k x1 x2 o p b := rfl
  have c : QE.encoder_Check.f x1 x2 o = some 0 := by
    unfold QE.encoder_Check.f
    rw [if_neg (by have := h.ok.lt; omega), if_neg h.ne, if_neg (by omega)]
  have d : QE.encoder_prob.f p = some (prb p) := prob_ok p
  rw [a]
  unfold Hand.Putf
  rw [c, Option.bind_some, if_pos rfl, d, Option.bind_some, if_pos ((prb_iff p).2 ⟨by omega, h1⟩), if_pos (by omega), putf_stp hk h.ok (by omega) h1 b o (by omega), Option.bind_some, g o, if_neg (by show ¬ ((o ++ e).length : Int) > 20000; rw [List.length_append]; omega)]
/-- The costs of a run: within bounds, and as the sizes of its ranges say. -/
theorem rr_ok : ∀ (ps : List Int) (bs : List Bool) (x1 x2 : Int), Va x1 x2 → (∀ p ∈ ps, 1 ≤ p ∧ p ≤ 4095) →
    ∃ n g y1 y2, rr x1 x2 ps bs = (n, g, y1, y2) ∧ 0 ≤ n ∧ n ≤ 2097152 * (ps.length : Int) ∧ 0 ≤ g ∧ g ≤ 4 * (ps.length : Int) ∧ Va y1 y2 ∧ n = L (x2 - x1 + 1) + 524288 * g - L (y2 - y1 + 1) := by
  intro ps
  induction ps with
  | nil => intro bs x1 x2 h _; exact ⟨0, 0, x1, x2, by simp only [rr], by omega, by simp, by omega, by simp, h, by omega⟩
  | cons p ps ih =>
    intro bs x1 x2 h hp
    cases bs with
    | nil => exact ⟨0, 0, x1, x2, by simp only [rr], by omega, by rw [List.length_cons]; omega, by omega, by rw [List.length_cons]; omega, h, by omega⟩
    | cons b bs =>
      obtain ⟨p0, p1⟩ := hp p (List.mem_cons_self ..)
      obtain ⟨y1, y2, e, g, va, el, sz⟩ := stp_va h.ok p0 p1 b
      obtain ⟨c0, c1⟩ := cst_in h.ok (show 0 ≤ p by omega) p1 b
      obtain ⟨n, m, z1, z2, e1, n0, n1, m0, m1, vz, tel⟩ := ih bs y1 y2 va (fun q hq => hp q (List.mem_cons_of_mem _ hq))
      obtain ⟨q0, _⟩ := prt_in h.ok (show 0 ≤ p by omega) p1 b
      have pw := L_pow q0 e.length
      rw [← sz] at pw
      refine ⟨cst x1 x2 p b + n, (e.length : Int) + m, z1, z2, ?_, by omega, by rw [List.length_cons]; omega, by omega, by rw [List.length_cons]; omega, vz, ?_⟩
      · simp only [rr]
        rw [g []]
        simp only [List.nil_append]
        rw [e1]
      · unfold cst; omega
theorem run_l0 (ps : List Int) (bs : List Bool) (hn : ps.length ≤ 2000) (hb : ps.length = bs.length) (hp : ∀ p ∈ ps, 1 ≤ p ∧ p ≤ 4095) : ∀ (d k : Nat) (i : Nat) (n m : Int) (x1 x2 : Int), i + d = ps.length → d + 30 < k → Va x1 x2 → 0 ≤ n → n ≤ 2097152 * (i : Int) → 0 ≤ m → m ≤ 4 * (i : Int) →
    cost_run.l0 k ps n m bs (bs.length : Int) (i : Int) x1 x2 [] = some (n + (rr x1 x2 (ps.drop i) (bs.drop i)).1, m + (rr x1 x2 (ps.drop i) (bs.drop i)).2.1) := by
  intro d
  induction d with
  | zero =>
    intro k i n m x1 x2 hi hk _ _ _ _ _
    obtain ⟨k, rfl⟩ : ∃ m, k = m + 1 := ⟨k - 1, by omega⟩
    rw [cost_run.l0.eq_2, if_neg (by omega), List.drop_eq_nil_of_le (by omega)]
    simp only [rr, Int.add_zero]
  | succ d ih =>
    intro k i n m x1 x2 hi hk h n0 n1 m0 m1
    obtain ⟨k, rfl⟩ : ∃ m, k = m + 1 := ⟨k - 1, by omega⟩
    have hl : i < ps.length := by omega
    have hl' : i < bs.length := by omega
    obtain ⟨p0, p1⟩ := hp ps[i] (List.getElem_mem hl)
    obtain ⟨y1, y2, e, g, va, el, _⟩ := stp_va h.ok p0 p1 bs[i]
    obtain ⟨c0, c1⟩ := cst_in h.ok (show 0 ≤ ps[i] by omega) p1 bs[i]
    rw [cost_run.l0.eq_2, if_pos (by omega), if_pos (by omega), if_pos (by omega), if_pos (by omega), rd_at hl, rb_at hl', step_ok (by omega) h.ok p0 p1, Option.bind_some, put0 (by omega) h p0 p1 bs[i] [] (by decide) g el, Option.bind_some]
    simp only [List.nil_append]
    rw [IntWalk.wrap64_in (n + _) (by omega), IntWalk.wrap64_in (m + _) (by omega), IntWalk.wrap64_in _ (by omega), show (i : Int) + 1 = ((i + 1 : Nat) : Int) by omega, List.drop_eq_getElem_cons hl, List.drop_eq_getElem_cons hl']
    simp only [rr]
    rw [g [], ih k (i + 1) (n + cst x1 x2 ps[i] bs[i]) (m + (e.length : Int)) y1 y2 (by omega) (by omega) va (by omega) (by omega) (by omega) (by omega)]
    simp only [List.nil_append]
    rw [Int.add_assoc, Int.add_assoc]
theorem Run_l0 (ps : List Int) (bs : List Bool) (hn : ps.length ≤ 2000) (hb : ps.length = bs.length) (hp : ∀ p ∈ ps, 1 ≤ p ∧ p ≤ 4095) : ∀ (d k : Nat) (i : Nat) (n m : Int) (x1 x2 : Int), i + d = ps.length → d + 130 < k → Va x1 x2 → 0 ≤ n → n ≤ 2097152 * (i : Int) → 0 ≤ m → m ≤ 4 * (i : Int) →
    ∃ s, bitloftref23_Run.l0 k ps bs n m (i : Int) x1 x2 [] = some (n + (rr x1 x2 (ps.drop i) (bs.drop i)).1, m + (rr x1 x2 (ps.drop i) (bs.drop i)).2.1, s) := by
  intro d
  induction d with
  | zero =>
    intro k i n m x1 x2 hi hk _ _ _ _ _
    obtain ⟨k, rfl⟩ : ∃ m, k = m + 1 := ⟨k - 1, by omega⟩
    rw [bitloftref23_Run.l0.eq_2, if_neg (by omega), List.drop_eq_nil_of_le (by omega)]
    simp only [rr, Int.add_zero]
    exact ⟨_, rfl⟩
  | succ d ih =>
    intro k i n m x1 x2 hi hk h n0 n1 m0 m1
    obtain ⟨k, rfl⟩ : ∃ m, k = m + 1 := ⟨k - 1, by omega⟩
    have hl : i < ps.length := by omega
    have hl' : i < bs.length := by omega
    obtain ⟨p0, p1⟩ := hp ps[i] (List.getElem_mem hl)
    obtain ⟨y1, y2, e, g, va, el, _⟩ := stp_va h.ok p0 p1 bs[i]
    obtain ⟨c0, c1⟩ := cst_in h.ok (show 0 ≤ ps[i] by omega) p1 bs[i]
    rw [bitloftref23_Run.l0.eq_2, if_pos (by omega), if_pos (by omega), if_pos (by omega), rd_at hl, rb_at hl', Step_ok (by omega) h.ok p0 p1, Option.bind_some, Did_ok (by omega) h.ok (by omega) p1 bs[i] [] (by decide), Option.bind_some, g []]
    simp only [List.nil_append]
    rw [IntWalk.wrap64_in (n + _) (by omega), IntWalk.wrap64_in (m + _) (by omega), IntWalk.wrap64_in _ (by omega), show (i : Int) + 1 = ((i + 1 : Nat) : Int) by omega, List.drop_eq_getElem_cons hl, List.drop_eq_getElem_cons hl']
    simp only [rr]
    obtain ⟨s, hs⟩ := ih k (i + 1) (n + cst x1 x2 ps[i] bs[i]) (m + (e.length : Int)) y1 y2 (by omega) (by omega) va (by omega) (by omega) (by omega) (by omega)
    rw [g [], hs]
    simp only [List.nil_append]
    rw [Int.add_assoc, Int.add_assoc]
    exact ⟨s, rfl⟩
noncomputable def reals (ps : List Int) (bs : List Bool) : Int × Int := if prs1 ps bs.length = 0 then ((rr 0 4294967295 ps bs).1, 0) else (0, prs1 ps bs.length)
noncomputable def bytess (ps : List Int) (bs : List Bool) : Int × Int := if prs1 ps bs.length = 0 then ((rr 0 4294967295 ps bs).2.1, 0) else (0, prs1 ps bs.length)
theorem run_ok {k : Nat} (hk : 2200 ≤ k) {ps : List Int} {bs : List Bool} (c : prs1 ps bs.length = 0) : cost_run.f k ps bs = some ((rr 0 4294967295 ps bs).1, (rr 0 4294967295 ps bs).2.1) := by
  obtain ⟨h0, h1, h2⟩ := prs1_zero c
  have n : encoder_New.f = some (0, 4294967295, []) := rfl
  unfold cost_run.f
  rw [n, Option.bind_some]
  have a := run_l0 ps bs (by omega) h1 h2 ps.length k 0 0 0 0 4294967295 (by omega) (by omega) va0 (by omega) (by omega) (by omega) (by omega)
  rw [List.drop_zero, List.drop_zero, Int.zero_add, Int.zero_add] at a
  exact a
theorem RRun_ok {k : Nat} (hk : 2200 ≤ k) {ps : List Int} {bs : List Bool} (c : prs1 ps bs.length = 0) : ∃ s, bitloftref23_Run.f k ps bs = some ((rr 0 4294967295 ps bs).1, (rr 0 4294967295 ps bs).2.1, s) := by
  obtain ⟨h0, h1, h2⟩ := prs1_zero c
  have n : bitloftref20_New.f = some (0, 4294967295, []) := rfl
  unfold bitloftref23_Run.f
  rw [n, Option.bind_some]
  have a := Run_l0 ps bs (by omega) h1 h2 ps.length k 0 0 0 0 4294967295 (by omega) (by omega) va0 (by omega) (by omega) (by omega) (by omega)
  rw [List.drop_zero, List.drop_zero, Int.zero_add, Int.zero_add] at a
  exact a
theorem Real_ok {k : Nat} (hk : 2200 ≤ k) (ps : List Int) (bs : List Bool) : cost_Real.f k ps bs = some (reals ps bs) ∧ bitloftref23_Real.f k ps bs = some (reals ps bs) := by
  unfold cost_Real.f bitloftref23_Real.f reals
  rw [check_ok (by omega), Lists_ok (by omega), Option.bind_some, Option.bind_some, Option.bind_some]
  by_cases c : prs1 ps bs.length = 0
  · obtain ⟨s, hs⟩ := RRun_ok hk c
    rw [if_pos c, if_pos c, if_pos c, run_ok hk c, hs, Option.bind_some, Option.bind_some]
    exact ⟨rfl, rfl⟩
  · rw [if_neg c, if_neg c, if_neg c]
    exact ⟨rfl, rfl⟩
theorem Bytes_ok {k : Nat} (hk : 2200 ≤ k) (ps : List Int) (bs : List Bool) : cost_Bytes.f k ps bs = some (bytess ps bs) ∧ bitloftref23_Bytes.f k ps bs = some (bytess ps bs) := by
  unfold cost_Bytes.f bitloftref23_Bytes.f bytess
  rw [check_ok (by omega), Lists_ok (by omega), Option.bind_some, Option.bind_some, Option.bind_some]
  by_cases c : prs1 ps bs.length = 0
  · obtain ⟨s, hs⟩ := RRun_ok hk c
    rw [if_pos c, if_pos c, if_pos c, run_ok hk c, hs, Option.bind_some, Option.bind_some]
    exact ⟨rfl, rfl⟩
  · rw [if_neg c, if_neg c, if_neg c]
    exact ⟨rfl, rfl⟩
end Go.Proofs.Ytgapkifgddjijaa.EncC
