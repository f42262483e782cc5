/- The digests of the leaves of a list, the reference's. Written by wip/s1/mkdigests.py. -/
import Derived.Test.YtbldecdipicddaaDoorDgApp
set_option linter.unusedSimpArgs false
set_option linter.unusedVariables false
namespace Go.Proofs.YtbldecdipicddaaDoor.Hand
open Go Go.RowKit Go.Proofs.YtbldecdipicddaaDoorW.PrintWords Go.Proofs.YtbldecdipicddaaDoorW.PrintLast
set_option maxHeartbeats 1600000 in
set_option maxRecDepth 100000 in
theorem digests_walk (A : Option Addr) (c : Nat) (ll : List (List Int)) (lf : List Int → Dg) (w : World) (hr : Kd.C (Kd.slice 5 (Kd.int .u8)) w A ll.length ll) (hl : ll.length ≤ 600) (hleaf : ∀ i, i < ll.length → ∀ (W : World) (A1 : Option Addr) (c1 : Nat), Kd.C (Kd.int .u8) W A1 (ll.getD i []).length (ll.getD i []) → (ll.getD i []).length ≤ c1 → Calls Tryd.prog 85 #[.slice A1 (ll.getD i []).length c1] W fun e w' => e = .returned (.agg #[.int .u8 (lf (ll.getD i []) 0), .int .u8 (lf (ll.getD i []) 1), .int .u8 (lf (ll.getD i []) 2), .int .u8 (lf (ll.getD i []) 3), .int .u8 (lf (ll.getD i []) 4), .int .u8 (lf (ll.getD i []) 5), .int .u8 (lf (ll.getD i []) 6), .int .u8 (lf (ll.getD i []) 7), .int .u8 (lf (ll.getD i []) 8), .int .u8 (lf (ll.getD i []) 9), .int .u8 (lf (ll.getD i []) 10), .int .u8 (lf (ll.getD i []) 11), .int .u8 (lf (ll.getD i []) 12), .int .u8 (lf (ll.getD i []) 13), .int .u8 (lf (ll.getD i []) 14), .int .u8 (lf (ll.getD i []) 15), .int .u8 (lf (ll.getD i []) 16), .int .u8 (lf (ll.getD i []) 17), .int .u8 (lf (ll.getD i []) 18), .int .u8 (lf (ll.getD i []) 19)]) ∧ Below W.heap.size W w') :
    Calls Tryd.prog 88 #[.slice A ll.length c] w fun e w' => ∃ v0_ : Value, e = .returned v0_ ∧ Kd.R kdg 23 w' w.heap.size (fun _ => True) v0_ (ll.map lf) ∧ Below w.heap.size w w' := by
  have Hhr := Aside0.mk hr
  have Hhl := Aside0.mk hl
  have Hhleaf := Aside0.mk hleaf
  clear hr hl hleaf
  go_enter Tryd.func88, Tryd.ntmps88
  go_wp2_with fail
  go_loopg [3, 4] ll.length (fun n v3 v4 w' => ∃ (i : Nat), v4 = .int .i64 (i : Int) ∧ Aside0 (i + n = ll.length) ∧ Aside0 (Kd.R kdg 23 w' w.heap.size (fun _ => True) v3 ((ll.take i).map lf)) ∧ Aside0 (Below w.heap.size w w'))
  case atStart => exact ⟨0, rfl, ⟨by omega⟩, ⟨Kd.R_nil _ _ _ _ _⟩, ⟨Below.refl _ _⟩⟩
  case round =>
    obtain ⟨i, rfl, HK, HO, BB⟩ := hrel
    by_cases hk : i < ll.length
    · obtain ⟨go, rfl⟩ : ∃ j, gk = j + 1 := ⟨gk - 1, by have := HK.out; omega⟩
      have hi1 : ((i : Int) < ((ll.length : Nat) : Int)) = True := eq_true (by omega)
      have hi2 : (i < ll.length) = True := eq_true hk
      have hi3 : (0 ≤ (i : Int)) = True := eq_true (by omega)
      have u1 : wrap64 ((i : Int) + 1) = ((i + 1 : Nat) : Int) := by have := Hhl.out; unfold wrap64; omega
      obtain ⟨i2, hi2'⟩ : ∃ x : Nat, x = i + 1 := ⟨_, rfl⟩
      rw [← hi2'] at u1
      have HI2 := Aside0.mk hi2'
      have HI := Aside0.mk hk
      obtain ⟨ad, rfl, hx_⟩ : ∃ ad, A = some ad ∧ True := by obtain ⟨ad, e, _⟩ := Hhr.out.2.2 (by omega); exact ⟨ad, e, trivial⟩
      clear hx_ hk hi2'
      obtain ⟨Ai, ci, hcell, hle_, hC_⟩ := rows_get (Kd.C_below Hhr.out BB.out) i HI.out
      obtain ⟨x, hx⟩ : ∃ x : List Int, x = ll.getD i [] := ⟨_, rfl⟩
      have HLF := Aside0.mk (Hhleaf.out i HI.out)
      have HX0 := Aside0.mk hx
      rw [← hx] at hcell hle_ hC_ HLF
      have HC1 := Aside0.mk hC_
      have HL1 := Aside0.mk hle_
      clear hC_ hle_ hx
      obtain ⟨p, hp⟩ : ∃ p : Dg, p = lf x := ⟨_, rfl⟩
      rw [← hp] at HLF
      have HP := Aside0.mk hp
      clear hp
      go_wp2_with fail
      refine ((HLF.out wr Ai ci HC1.out HL1.out)).mono ?_
      rintro e w101 ⟨rfl, hb_⟩
      have B102 := Aside0.mk (below_step BB.out hb_)
      have HO103 := Aside0.mk (Kd.R_below HO.out hb_)
      clear hb_ BB HO
      clear hcell HC1 HL1 HLF
      go_wp2_with (first | ((with_reducible refine gate_bltn (b := .append) (xs := #[.tmp 11, .tmp 17]) rfl ?_); at_builtin; refine Kd.R_append kdg (w0 := w) w.heap.size rfl (.tmp 11) (.tmp 17) 55 23 (.agg #[.int .u8 0, .int .u8 0, .int .u8 0, .int .u8 0, .int .u8 0, .int .u8 0, .int .u8 0, .int .u8 0, .int .u8 0, .int .u8 0, .int .u8 0, .int .u8 0, .int .u8 0, .int .u8 0, .int .u8 0, .int .u8 0, .int .u8 0, .int .u8 0, .int .u8 0, .int .u8 0]) 20 rfl Tryd.underlying55 info23p rfl (by decide) (by decide) _ ((ll.take i).map lf) p [.int .u8 (p 0), .int .u8 (p 1), .int .u8 (p 2), .int .u8 (p 3), .int .u8 (p 4), .int .u8 (p 5), .int .u8 (p 6), .int .u8 (p 7), .int .u8 (p 8), .int .u8 (p 9), .int .u8 (p 10), .int .u8 (p 11), .int .u8 (p 12), .int .u8 (p 13), .int .u8 (p 14), .int .u8 (p 15), .int .u8 (p 16), .int .u8 (p 17), .int .u8 (p 18), .int .u8 (p 19)] (fun _ => True) (fun _ => False) rfl rfl ?aP (fun _ hk => hk.elim) ?aF ?aO ?aB ?aS ?aL ?_; (case aP => exact dgM _ _ _ _); (case aB => first | exact B102.out | exact below_alloc B102.out _); (case aF => exact (fun _ _ => trivial)); (case aO => exact (by (with_reducible repeat (first | apply Kd.R_alloc)); exact HO103.out)); (case aS => first | exact below_size B102.out | exact below_size (below_alloc B102.out _)); (case aL => have := Hhl.out; have := HI.out; simp only [List.length_map, List.length_take]; omega); intro v200 w200 ho hb hg hat; have HO200 := Aside0.mk ho; have B200 := Aside0.mk hb; clear ho hb hg hat HO103 B102))
      go_roundg go
      case measure => have := HK.out; omega
      case rel => exact ⟨i2, (by first | rfl | rw [u1]), ⟨by have := HK.out; have := HI2.out; omega⟩, ⟨by rw [HI2.out, take_map lf ll i HI.out, ← HX0.out, ← HP.out]; exact HO200.out⟩, B200⟩
    · obtain rfl : i = ll.length := by have := HK.out; omega
      have hi1 : (((ll.length : Nat) : Int) < ((ll.length : Nat) : Int)) = False := eq_false (by omega)
      clear hk
      go_wp2_with fail
      go_ret
      exact ⟨_, rfl, by have h := HO.out; rw [List.take_length] at h; exact h, BB.out⟩
end Go.Proofs.YtbldecdipicddaaDoor.Hand
