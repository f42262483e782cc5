/- The tied card of the law TreeRoots, where what it reads is of bulk at most 1048576, out of Hand.roots (laid by wip/lawrowU.py). Not trusted: Lean checks it. -/
import Derived.Test.YtbldecdipicddaaDoorRows
import Derived.Test.YtbldecdipicddaaDoorRowOpen
import Derived.Test.YtbldecdipicddaaDoorHConcat
import Derived.Test.YtbldecdipicddaaDoorCards
import Derived.Test.YtbldecdipicddaaDoorTie
import Derived.Test.YtbldecdipicddaaDoorTabLaid
import Derived.Test.YtbldecdipicddaaDoorRowsOpen
import Derived.Test.YtbldecdipicddaaDoorLRoots
import Derived.WalkKit
import Derived.ProofKit
import Derived.OpenShut
import Derived.ShutString
import Derived.ChangeOld
import Derived.Below
import Derived.SizedLaws
import Derived.Carry
import Derived.LaidMore
import Derived.Stop.Joined
import Derived.SevenTiedAt
import Derived.Deep.DeepHandedRow
import Derived.Deep.DeepWitnessRowRef
set_option linter.unusedSimpArgs false
set_option linter.unusedVariables false
namespace Go.Proofs.YtbldecdipicddaaDoor.Hand
open Go Go.Joins Go.RowKit Go.ChangeShapes Go.WideShapes Go.ChangeAt Go.Deep Go.Proofs.YtbldecdipicddaaDoorW.PrintWords Go.Proofs.YtbldecdipicddaaDoorW.PrintLast
variable {H : Type} {enc : TypeId × Value → H} {P : Program} {w : World} {base : Nat} {held : Bool} {spare : Nat → Bool}
theorem bulk_one (d : DataW H) : 1 ≤ Rows.uptoBulk d := by
  cases d with
  | lit l => cases l <;> simp [Rows.uptoBulk]
  | nil => simp [Rows.uptoBulk]
  | ptr d => simp [Rows.uptoBulk]
  | slice elems spare => simp [Rows.uptoBulk]
  | agg parts => simp [Rows.uptoBulk]
  | iface t d => simp [Rows.uptoBulk]
  | map entries => simp [Rows.uptoBulk]
  | held h => simp [Rows.uptoBulk]
theorem bulk_len (l : List (DataW H)) : l.length ≤ Rows.uptoBulkAll l := by
  induction l with
  | nil => simp [Rows.uptoBulkAll]
  | cons x r ih => have := bulk_one x; simp only [Rows.uptoBulkAll, List.length_cons]; omega
theorem bulk_app (l r : List (DataW H)) : Rows.uptoBulkAll (l ++ r) = Rows.uptoBulkAll l + Rows.uptoBulkAll r := by
  induction l with
  | nil => simp [Rows.uptoBulkAll]
  | cons x l ih => simp only [List.cons_append, Rows.uptoBulkAll, ih]; omega
theorem string_bulk {t q : TypeId} {m : Nat} {cs : List Value} {x : DataW H × List MemPlace} (ht : P.underlying t = some (.slice q)) (h : DataW.trod enc P w base spare held m t cs = some x) {A : Option Addr} {n c : Nat} (hcs : cs = [.slice A n c]) : n ≤ Rows.uptoBulk x.1 := by
  rcases DataW.trod_slice ht h with ⟨e, rfl⟩ | ⟨a, len, cap, elems, rest, m', rfl, e, rfl, _, _, _, hel, _⟩
  · rw [hcs] at e
    simp only [List.cons.injEq, Value.slice.injEq] at e
    omega
  · rw [hcs] at e
    simp only [List.cons.injEq, Value.slice.injEq] at e
    have := bulk_len (elems.map (·.1))
    rw [List.length_map] at this
    show n ≤ Rows.uptoBulkAll (elems.map (·.1)) + Rows.uptoBulkAll (rest.map (·.1)) + 1
    omega
theorem tot_bulk (ll : List (List Int)) (ds : List (DataW H)) : ∀ k, (∀ i, i < k → ∃ d, ds[i]? = some d ∧ (ll.getD i []).length ≤ Rows.uptoBulk d) → tot ll k ≤ Rows.uptoBulkAll (ds.take k)
  | 0, _ => Nat.zero_le _
  | k + 1, h => by
    obtain ⟨d, hd, hle⟩ := h k (by omega)
    have ih := tot_bulk ll ds k (fun i hi => h i (by omega))
    rw [List.take_add_one, hd, bulk_app, tot]
    show _ ≤ Rows.uptoBulkAll (ds.take k) + (Rows.uptoBulk d + 0)
    omega
theorem rows_bulk {t e q : TypeId} {ll : List (List Int)} {A : Option Addr} {c : Nat} {d : DataW H} {p : List MemPlace} (ht : P.underlying t = some (.slice e)) (he : P.underlying e = some (.slice q)) (ce : P.cellsOf e = 1)
    (hC : Kd.C (Kd.slice 5 (Kd.int .u8)) w A ll.length ll) (h : DataW.Trod enc P w base spare held t (.slice A ll.length c) d p) : tot ll ll.length ≤ Rows.uptoBulk d := by
  obtain ⟨fuel, hf⟩ := h
  rcases DataW.trod_slice ht hf with ⟨hcs, _⟩ | ⟨a, len, cap, elems, rest, m, rfl, hcs, hx, _, hl, hm, hel, hread, _, _⟩
  · simp [Value.cells] at hcs
    obtain ⟨_, h0, _⟩ := hcs
    rw [h0]
    exact Nat.zero_le _
  · simp [Value.cells] at hcs
    obtain ⟨rfl, hlen, _⟩ := hcs
    rw [hlen]
    simp only [Prod.mk.injEq] at hx
    rw [hx.1]
    have := tot_bulk ll (elems.map (·.1)) len (fun i hi => by
      have hr := hread i hi
      rw [List.getElem?_eq_getElem (by omega)] at hr
      obtain ⟨cs, h1, h2⟩ := Option.bind_eq_some_iff.1 hr
      obtain ⟨_, hn, hcell⟩ := World.cells?_some h1
      obtain ⟨Ai, ci, hv, _, _⟩ := rows_get hC i (by omega)
      have h0 := hcell 0 (by rw [ce]; decide)
      rw [ce, Addr.add_add, Nat.mul_one, Nat.add_zero, hv] at h0
      rw [ce] at hn
      refine ⟨elems[i].1, by rw [List.getElem?_map, List.getElem?_eq_getElem (by omega)]; rfl, string_bulk he h2 (A := Ai) (n := (ll.getD i []).length) (c := ci) ?_⟩
      match cs, hn with
      | [y], _ =>
        have h3 : some (Value.slice Ai (ll.getD i []).length ci) = some y := h0
        rw [Option.some.inj h3])
    rw [List.take_of_length_le (by rw [List.length_map]; omega)] at this
    show _ ≤ Rows.uptoBulkAll (elems.map (·.1)) + Rows.uptoBulkAll (rest.map (·.1)) + 1
    omega
end Go.Proofs.YtbldecdipicddaaDoor.Hand
namespace Go.Proofs.YtbldecdipicddaaDoor.treeRoots
open Go Go.ChangeShapes Go.WideShapes Go.ChangeAt Go.RowKit Go.Proofs.YtbldecdipicddaaDoor.RowOpen
set_option linter.unusedVariables false
set_option linter.unusedSimpArgs false
theorem own : ownKnob Tryd.prog.godebug = none := by kernel_rfl
theorem laidOut : laidOutB Tryd.prog = true := by kernel_rfl
set_option maxRecDepth 100000 in
theorem door_met (os : Os) (args : Array Value) : laidMetH Tryd.prog [("bitloft/sha.quarters", Rows.laid_bitloft_sha_quarters)] ((World.doorLaid Tryd.prog 400 os).forCall (fun _ _ => 0) ⟨#[], args, []⟩).memory :=
  laidMetH_of_parts3 (fuel := 8) (laidMet_of_run' 8 (by kernel_rfl) (by kernel_rfl)) (by kernel_rfl) (by kernel_rfl)
theorem reads (os : Os) {H : Type} (enc : TypeId × Value → H) : ∃ places, DataW.whole enc Tryd.prog ((World.doorLaid Tryd.prog 400 os).forCall (fun _ _ => 0) ⟨#[], #[.slice none 0 0, .slice none 0 0, .int .i64 0, .int .i64 0], []⟩).memory Tryd.f18.params.toList Rows.treeRootsSpec.vars false #[.slice none 0 0, .slice none 0 0, .int .i64 0, .int .i64 0].toList 8 = some ([.nil, .nil, .lit (.int .i64 0), .lit (.int .i64 0)], [], places) :=
  ⟨[], by kernel_rfl⟩
set_option maxHeartbeats 1600000 in
set_option maxRecDepth 100000 in
theorem lifted (os : Os) (started : os.Started) (H : Type) (enc : TypeId × Value → H) (F : Stop.Interp) :
    ReturnsInHanded {} Tryd.checked os 18 .any ((Rows.OpenSpec.upto Rows.treeRootsSpec).preRow enc Tryd.prog Tryd.f18 Rows.treeRootsUptoRow.domain false Rows.treeRootsUptoRow.laid) (((Rows.OpenSpec.upto Rows.treeRootsSpec).at F).post enc Tryd.prog Tryd.f18 false true false false) := by
  obtain ⟨places, hx⟩ := reads os enc
  refine returnsInHanded_of_row (C := Tryd.checked) (s := Rows.OpenSpec.upto Rows.treeRootsSpec) own started (by kernel_rfl) Tryd.func18
    (witness_row_atRef (enc := enc) (C := Tryd.checked) false (World.doorLaid Tryd.prog 400 os) #[.slice none 0 0, .slice none 0 0, .int .i64 0, .int .i64 0] rfl (by kernel_rfl) (by kernel_rfl) (by kernel_rfl)
      (OpenSpec.preRow_of_cond 8 hx (by kernel_rfl) (fun k hk => by cases hk; kernel_rfl) (by kernel_rfl) (door_met os _))) ?_
  intro W base args ds gs before hval0 hW _ hcond _ hL _ _
  have hval : ∀ (j : Nat) t v, Tryd.f18.params[j]? = some t → args[j]? = some v → Value.okWide Tryd.prog W .any base t v := hval0
  have hW' := hW
  obtain ⟨p, q, hA0, hV, rfl, hfz, hnd⟩ := hW
  have hA : DataW.TrodAll enc Tryd.prog W 0 (fun _ => true) true Tryd.f18.params.toList args.toList ds p := hA0
  rw [Tryd.params18] at hA hval
  obtain ⟨v0, vs0, d0, ds0, p0, q0, hargs, rfl, rfl, h0, r0⟩ := trodAll_cons hA
  obtain ⟨v1, vs1, d1, ds1, p1, q1, rfl, rfl, rfl, h1, r1⟩ := trodAll_cons r0
  obtain ⟨v2, vs2, d2, ds2, p2, q2, rfl, rfl, rfl, h2, r2⟩ := trodAll_cons r1
  obtain ⟨v3, vs3, d3, ds3, p3, q3, rfl, rfl, rfl, h3, r3⟩ := trodAll_cons r2
  obtain ⟨rfl, rfl, rfl⟩ := trodAll_nil r3
  obtain rfl : args = #[v0, v1, v2, v3] := by cases args; simp_all
  obtain ⟨rfl, rfl⟩ := trodVars_none hV
  have hTab := tabQ_of hL
  have k0 := h0
  have lt0 : ∀ x ∈ p0, x.block < W.heap.size := by obtain ⟨m, hm⟩ := k0; exact DataW.trod_lt m _ _ _ hm
  have k1 := h1
  have lt1 : ∀ x ∈ p1, x.block < W.heap.size := by obtain ⟨m, hm⟩ := k1; exact DataW.trod_lt m _ _ _ hm
  have k2 := h2
  have lt2 : ∀ x ∈ p2, x.block < W.heap.size := by obtain ⟨m, hm⟩ := k2; exact DataW.trod_lt m _ _ _ hm
  have k3 := h3
  have lt3 : ∀ x ∈ p3, x.block < W.heap.size := by obtain ⟨m, hm⟩ := k3; exact DataW.trod_lt m _ _ _ hm
  obtain ⟨A0, c0, l0, rfl, hr0, hc0, g0⟩ := rows_of Tryd.underlying51 Tryd.underlying26 Tryd.underlying5 (by kernel_rfl) (by kernel_rfl) (hval 0 51 v0 rfl rfl) h0
  obtain ⟨A1, c1, l1, rfl, hr1, hc1, g1⟩ := ints_of Tryd.underlying26 Tryd.underlying5 (by kernel_rfl) (hval 1 26 v1 rfl rfl) h1
  obtain ⟨x2, rfl, rfl, rfl, g2⟩ := open_int Tryd.underlying3 (hval 2 3 v2 rfl rfl) h2
  obtain ⟨x3, rfl, rfl, rfl, g3⟩ := open_int Tryd.underlying3 (hval 3 3 v3 rfl rfl) h3
  have hb := Hand.rows_bulk Tryd.underlying51 Tryd.underlying26 (by kernel_rfl) hr0 k0
  have ht : Hand.tot l0 l0.length ≤ 1000000000 := by
    have h := of_decide_eq_true (hcond _ rfl)
    simp only [List.append_nil, Rows.uptoBulkAll] at h
    omega
  clear hA0 hval0 hcond
  simp only [List.append_nil] at hW'
  refine (Hand.roots A0 c0 l0 A1 c1 l1 x2 x3 W hTab hr0 hc0 (fun j hj => bytes_wf (g0 j hj)) hr1 hc1 (bytes_wf g1) ht).mono ?_
  rintro e W' ⟨rfl, bel⟩
  exact ⟨_, rfl, _, _, _, [], _, [], hW', trodAll_mk1 (shut_bool Tryd.underlying4 _), (trodAll_cons_mk (Below.trod laidOut (by kernel_rfl) (of_decide_eq_true (by kernel_rfl)) k0 bel lt0) (trodAll_cons_mk (Below.trod laidOut (by kernel_rfl) (of_decide_eq_true (by kernel_rfl)) k1 bel lt1) (trodAll_cons_mk (Below.trod laidOut (by kernel_rfl) (of_decide_eq_true (by kernel_rfl)) k2 bel lt2) (trodAll_cons_mk (Below.trod laidOut (by kernel_rfl) (of_decide_eq_true (by kernel_rfl)) k3 bel lt3) trodAll_mk0)))), rfl, bel.frame _, fun h => by cases h⟩
theorem over : Rows.TreeRootsUptoSaid :=
  OpenClaim.holds_of_cond 18 Tryd.f18 rfl rfl rfl rfl rfl rfl rfl ⟨rfl, rfl, rfl, rfl, rfl⟩ rfl rfl rfl rfl rfl (by kernel_rfl) Tryd.func18 (by kernel_rfl)
    (of_decide_eq_true (by kernel_rfl)) (by unfold Func.isWrapper; first | (rw [if_pos (by decide +kernel)]; kernel_rfl) | (rw [if_neg (by decide +kernel)]; exact ⟨rfl, rfl⟩))
    (fun os started H enc _ F => by rw [OpenClaim.pre_eq_preRow]; exact lifted os started H enc F)
theorem card : Rows.TreeRootsUptoCardSaid :=
  Claim7.holds_tied_plain_at .later [] _ _ _ _ over (fun _ h => by cases h) (by kernel_rfl) (fun _ h => by cases h) treeRootsUpto_row_tie rfl ⟨rfl, rfl⟩ (by kernel_rfl) rfl
    (fun f fn hf hfn => by
      obtain rfl : f = 18 := Option.some.inj ((show Tryd.prog.funcNamed "bitloft/bitloftlaw41.TreeRoots" = some 18 by kernel_rfl).symm.trans hf) |>.symm
      obtain rfl : fn = Tryd.f18 := (Option.some.inj (Tryd.func18.symm.trans hfn)).symm
      exact ⟨by kernel_rfl, fun j t ht => by
        rw [Tryd.params18] at ht
        have hm : t ∈ ([51, 26, 3, 3] : List TypeId) := by simpa using Array.mem_of_getElem? ht
        have hall : (([51, 26, 3, 3] : List TypeId).all fun u => !Tryd.prog.wantsStandIn u) = true := by kernel_rfl
        exact (show Tryd.prog.wantsStandIn t = false by simpa using List.all_eq_true.1 hall t hm)⟩)
    (by kernel_rfl)
#print axioms card
end Go.Proofs.YtbldecdipicddaaDoor.treeRoots
namespace Go.Proofs.YtbldecdipicddaaDoor
/-- The card, under a short name, for the claim. -/
theorem treeRootsUpto_holds : Rows.TreeRootsUptoCardSaid := treeRoots.card
end Go.Proofs.YtbldecdipicddaaDoor
