/- The contracts of slices.IndexFunc and slices.ContainsFunc at []int, for whatever function asks of a number. -/
import Derived.Test.YtgapkifgddjijaaHandA
import Derived.Test.YtgapkifgddjijaaQEx
namespace Go.Proofs.Ytgapkifgddjijaa.Hand
open Go.RowKit Go.Proofs.YtgapkifgddjijaaW.PrintWords Go.Proofs.YtgapkifgddjijaaW.PrintLast Go.Proofs.YtgapkifgddjijaaW.PrintMore
open Go.Proofs.Ytgapkifgddjijaa.QE

theorem Cint_at {k : IntKind} {w : World} {A : Option Addr} {n : Nat} {xs : List Int} (h : Kd.C (Kd.int k) w A n xs) (i : Nat) (hi : i < xs.length) : ∃ ad, A = some ad ∧ w.cell? (ad.add i) = some (.int k (xs.getD i 0)) := by
  obtain ⟨ad, e, hc⟩ := h.2.2 (by have := h.1; omega)
  obtain ⟨c, hl, hp, hcell⟩ := hc i _ (List.getElem?_eq_getElem hi)
  have hp' : c = [.int k xs[i]] := hp
  subst hp'
  refine ⟨ad, e, ?_⟩
  have := hcell 0 _ rfl
  rw [show i * (Kd.int k).sz + 0 = i by show i * 1 + 0 = i; omega] at this
  rw [this, List.getD_eq_getElem?_getD, List.getElem?_eq_getElem hi]
  rfl

set_option maxHeartbeats 1600000 in
set_option maxRecDepth 100000 in
theorem IndexFunc_calls71 (bad : Int → Bool) (hf : ∀ (q : Int) (w : World), Calls Try.prog 71 #[.int .i64 q] w fun e w' => e = .returned (.bool (bad q)) ∧ Drawn0 w w')
    (A : Option Addr) (c : Nat) (l : List Int) (w : World) (hr : Kd.C (Kd.int .i64) w A l.length l) :
    Calls Try.prog 91 #[.slice A l.length c, .func (.func 71) #[] #[]] w fun e w' => ∃ r : Int, e = .returned (.int .i64 r) ∧ decide (0 ≤ r) = l.any bad ∧ Drawn0 w w' := by
  have HR := Aside0.mk hr
  have HF := Aside0.mk hf
  have hm : l.length ≤ 9223372036854775807 := hr.2.1
  clear hr hf
  go_enter Try.func91, Try.ntmps91
  go_wp2
  go_loopg [8] l.length (fun n v8 w' => ∃ k : Nat, v8 = .int .i64 (k : Int) ∧ Aside0 (k + n = l.length) ∧ Aside0 (∀ j (hj : j < l.length), j < k → bad (l[j]) = false) ∧ Drawn0 w w')
  case atStart => exact ⟨0, rfl, ⟨by omega⟩, ⟨fun j _ hj => absurd hj (by omega)⟩, Drawn0.refl _⟩
  case round =>
    obtain ⟨k, rfl, HK, HJ, ⟨m, rfl⟩⟩ := hrel
    by_cases hk : k < l.length
    · obtain ⟨ad, rfl, hcell⟩ := Cint_at HR.out k hk
      cases hb : bad (l[k]'hk) with
      | true =>
        have HB := Aside0.mk hb
        clear hb
        go_wp2_with fail
        refine (HF.out _ _).mono ?_
        rintro e w' ⟨rfl, ⟨nd, rfl⟩⟩
        rw [HB.out]
        go_wp2_with fail
        go_ret
        refine ⟨(k : Int), rfl, ?_, by repeat (first | exact Drawn0.refl _ | apply Drawn0.step)⟩
        rw [decide_eq_true (by omega), eq_comm, List.any_eq_true]
        exact ⟨l[k], List.getElem_mem hk, HB.out⟩
      | false =>
        have HB := Aside0.mk hb
        clear hb
        go_wp2_with fail
        refine (HF.out _ _).mono ?_
        rintro e w' ⟨rfl, ⟨nd, rfl⟩⟩
        rw [HB.out]
        go_wp2_with fail
        go_roundg (gk - 1)
        case measure => have := HK.out; omega
        case rel =>
          refine ⟨k + 1, by go_num, ⟨by have := HK.out; omega⟩, ⟨fun j hj hlt => ?_⟩, by repeat (first | exact Drawn0.refl _ | apply Drawn0.step)⟩
          rcases Nat.lt_succ_iff_lt_or_eq.1 hlt with h | h
          · exact HJ.out j hj h
          · subst h
            exact HB.out
    · go_wp2_with fail
      go_ret
      refine ⟨-1, rfl, ?_, by repeat (first | exact Drawn0.refl _ | apply Drawn0.step)⟩
      rw [decide_eq_false (by omega), eq_comm, List.any_eq_false]
      intro x hx
      obtain ⟨j, hj, rfl⟩ := List.mem_iff_getElem.1 hx
      rw [HJ.out j hj (by omega)]
      decide

set_option maxHeartbeats 1600000 in
set_option maxRecDepth 100000 in
theorem ContainsFunc_calls71 (bad : Int → Bool) (hf : ∀ (q : Int) (w : World), Calls Try.prog 71 #[.int .i64 q] w fun e w' => e = .returned (.bool (bad q)) ∧ Drawn0 w w')
    (A : Option Addr) (c : Nat) (l : List Int) (w : World) (hr : Kd.C (Kd.int .i64) w A l.length l) :
    Calls Try.prog 70 #[.slice A l.length c, .func (.func 71) #[] #[]] w fun e w' => e = .returned (.bool (l.any bad)) ∧ Drawn0 w w' := by
  have HR := Aside0.mk hr
  have HF := Aside0.mk hf
  clear hr hf
  go_enter Try.func70, Try.ntmps70
  go_wp2_with fail
  refine (IndexFunc_calls71 bad HF.out A c l _ HR.out).mono ?_
  rintro e w' ⟨r, rfl, hd, ⟨nd, rfl⟩⟩
  have HD := Aside0.mk hd
  clear hd
  go_wp2_with fail
  go_ret
  exact ⟨by rw [HD.out]; rfl, by repeat (first | exact Drawn0.refl _ | apply Drawn0.step)⟩
set_option maxHeartbeats 1600000 in
set_option maxRecDepth 100000 in
theorem IndexFunc_calls80 (bad : Int → Bool) (hf : ∀ (q : Int) (w : World), Calls Try.prog 80 #[.int .i64 q] w fun e w' => e = .returned (.bool (bad q)) ∧ Drawn0 w w')
    (A : Option Addr) (c : Nat) (l : List Int) (w : World) (hr : Kd.C (Kd.int .i64) w A l.length l) :
    Calls Try.prog 91 #[.slice A l.length c, .func (.func 80) #[] #[]] w fun e w' => ∃ r : Int, e = .returned (.int .i64 r) ∧ decide (0 ≤ r) = l.any bad ∧ Drawn0 w w' := by
  have HR := Aside0.mk hr
  have HF := Aside0.mk hf
  have hm : l.length ≤ 9223372036854775807 := hr.2.1
  clear hr hf
  go_enter Try.func91, Try.ntmps91
  go_wp2
  go_loopg [8] l.length (fun n v8 w' => ∃ k : Nat, v8 = .int .i64 (k : Int) ∧ Aside0 (k + n = l.length) ∧ Aside0 (∀ j (hj : j < l.length), j < k → bad (l[j]) = false) ∧ Drawn0 w w')
  case atStart => exact ⟨0, rfl, ⟨by omega⟩, ⟨fun j _ hj => absurd hj (by omega)⟩, Drawn0.refl _⟩
  case round =>
    obtain ⟨k, rfl, HK, HJ, ⟨m, rfl⟩⟩ := hrel
    by_cases hk : k < l.length
    · obtain ⟨ad, rfl, hcell⟩ := Cint_at HR.out k hk
      cases hb : bad (l[k]'hk) with
      | true =>
        have HB := Aside0.mk hb
        clear hb
        go_wp2_with fail
        refine (HF.out _ _).mono ?_
        rintro e w' ⟨rfl, ⟨nd, rfl⟩⟩
        rw [HB.out]
        go_wp2_with fail
        go_ret
        refine ⟨(k : Int), rfl, ?_, by repeat (first | exact Drawn0.refl _ | apply Drawn0.step)⟩
        rw [decide_eq_true (by omega), eq_comm, List.any_eq_true]
        exact ⟨l[k], List.getElem_mem hk, HB.out⟩
      | false =>
        have HB := Aside0.mk hb
        clear hb
        go_wp2_with fail
        refine (HF.out _ _).mono ?_
        rintro e w' ⟨rfl, ⟨nd, rfl⟩⟩
        rw [HB.out]
        go_wp2_with fail
        go_roundg (gk - 1)
        case measure => have := HK.out; omega
        case rel =>
          refine ⟨k + 1, by go_num, ⟨by have := HK.out; omega⟩, ⟨fun j hj hlt => ?_⟩, by repeat (first | exact Drawn0.refl _ | apply Drawn0.step)⟩
          rcases Nat.lt_succ_iff_lt_or_eq.1 hlt with h | h
          · exact HJ.out j hj h
          · subst h
            exact HB.out
    · go_wp2_with fail
      go_ret
      refine ⟨-1, rfl, ?_, by repeat (first | exact Drawn0.refl _ | apply Drawn0.step)⟩
      rw [decide_eq_false (by omega), eq_comm, List.any_eq_false]
      intro x hx
      obtain ⟨j, hj, rfl⟩ := List.mem_iff_getElem.1 hx
      rw [HJ.out j hj (by omega)]
      decide

set_option maxHeartbeats 1600000 in
set_option maxRecDepth 100000 in
theorem ContainsFunc_calls80 (bad : Int → Bool) (hf : ∀ (q : Int) (w : World), Calls Try.prog 80 #[.int .i64 q] w fun e w' => e = .returned (.bool (bad q)) ∧ Drawn0 w w')
    (A : Option Addr) (c : Nat) (l : List Int) (w : World) (hr : Kd.C (Kd.int .i64) w A l.length l) :
    Calls Try.prog 70 #[.slice A l.length c, .func (.func 80) #[] #[]] w fun e w' => e = .returned (.bool (l.any bad)) ∧ Drawn0 w w' := by
  have HR := Aside0.mk hr
  have HF := Aside0.mk hf
  clear hr hf
  go_enter Try.func70, Try.ntmps70
  go_wp2_with fail
  refine (IndexFunc_calls80 bad HF.out A c l _ HR.out).mono ?_
  rintro e w' ⟨r, rfl, hd, ⟨nd, rfl⟩⟩
  have HD := Aside0.mk hd
  clear hd
  go_wp2_with fail
  go_ret
  exact ⟨by rw [HD.out]; rfl, by repeat (first | exact Drawn0.refl _ | apply Drawn0.step)⟩

/-- What the encoder's Run asks of a number: is it no probability? -/
def noProb (q : Int) : Bool := !(decide (0 ≤ q) && decide (q ≤ 4095))
set_option maxHeartbeats 1600000 in
set_option maxRecDepth 100000 in
theorem Run1_calls (q : Int) (w : World) : Calls Try.prog 71 #[.int .i64 q] w fun e w' => e = .returned (.bool (noProb q)) ∧ Drawn0 w w' := by
  have hp : encoder_prob.f q = some (decide (0 ≤ q) && decide (q ≤ 4095)) := by
    unfold encoder_prob.f
    by_cases h : q ≥ 0
    · rw [if_pos h, decide_eq_true h, Bool.true_and]
    · rw [if_neg h, decide_eq_false h, Bool.false_and]
  have HP := Aside0.mk hp
  clear hp
  go_enter Try.func71, Try.ntmps71
  go_wp2_with fail
  refine (QE.encoder_prob.calls q _ _ HP.out).mono ?_
  rintro e w' ⟨rfl, ⟨nd, rfl⟩⟩
  go_wp2_with fail
  go_ret
  exact ⟨by first | rfl | (simp [noProb]; done), by repeat (first | exact Drawn0.refl _ | apply Drawn0.step)⟩
/-- What the decoder's Run asks. -/
def wrongf (q : Int) : Bool := decide (q < 0) || decide (4095 < q)
theorem wrong_calls (q : Int) (w : World) : Calls Try.prog 80 #[.int .i64 q] w fun e w' => e = .returned (.bool (wrongf q)) ∧ Drawn0 w w' := by
  refine QE.decoder_wrong.calls q (wrongf q) w ?_
  unfold decoder_wrong.f wrongf
  by_cases h : q < 0
  · rw [if_pos h, decide_eq_true h, Bool.true_or]
  · rw [if_neg h, decide_eq_false h, Bool.false_or]
end Go.Proofs.Ytgapkifgddjijaa.Hand
