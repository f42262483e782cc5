/- The contract of decoder.get: it changes the decoder behind the pointer as getf says, and nothing else that was there. -/
import Derived.Test.YtgapkifgddjijaaHandRun
import Derived.StillTailTactics
namespace Go.Proofs.Ytgapkifgddjijaa.Hand
open Go.RowKit Go.Proofs.YtgapkifgddjijaaW.PrintWords Go.Proofs.YtgapkifgddjijaaW.PrintLast Go.Proofs.YtgapkifgddjijaaW.PrintMore
open Go.Proofs.Ytgapkifgddjijaa.QE

def probB (q : Int) : Bool := decide (0 ≤ q) && decide (q ≤ 4095)
theorem prob_val (q : Int) : encoder_prob.f q = some (probB q) := by
  unfold encoder_prob.f probB
  by_cases h : q ≥ 0
  · rw [if_pos h, decide_eq_true h, Bool.true_and]
  · rw [if_neg h, decide_eq_false h, Bool.false_and]
set_option maxHeartbeats 800000 in
set_option maxRecDepth 100000 in
theorem prob_same (q : Int) (w : World) : Calls Try.prog 72 #[.int .i64 q] w fun e w' => e = .returned (.bool (probB q)) ∧ w' = w := by
  by_cases h : 0 ≤ q
  · have h1 : decide (0 ≤ q) = true := decide_eq_true h
    go_enter Try.func72, Try.ntmps72
    go_wp2
    go_ret
    exact ⟨by simp [probB, h1], rfl⟩
  · have h1 : decide (0 ≤ q) = false := decide_eq_false h
    go_enter Try.func72, Try.ntmps72
    go_wp2
    go_ret
    exact ⟨by simp [probB, h1], rfl⟩
theorem splitE (a0 a1 a2 : Int) : encoder_split.f a0 a1 a2 = some (splitf a0 a1 a2) := by
  unfold encoder_split.f splitf
  first | rfl | (simp; done)
set_option maxHeartbeats 800000 in
set_option maxRecDepth 100000 in
theorem Split_same (a0 a1 a2 m e : Int) (h : encoder_Split.f a0 a1 a2 = some (m, e)) (w : World) :
    Calls Try.prog 28 #[.int .u32 a0, .int .u32 a1, .int .i64 a2] w fun e_ w' => e_ = .returned (.tuple #[.int .u32 m, .int .i64 e]) ∧ w' = w := by
  unfold encoder_Split.f at h
  by_cases c : a0 ≥ a1
  · rw [if_pos c] at h
    simp only [Option.some.injEq, Prod.mk.injEq] at h
    obtain ⟨rfl, rfl⟩ := h
    have c1 : decide (a1 ≤ a0) = true := decide_eq_true c
    go_enter Try.func28, Try.ntmps28
    go_wp2_with fail
    go_ret2
    exact ⟨rfl, rfl⟩
  · rw [if_neg c, prob_val] at h
    have c1 : decide (a1 ≤ a0) = false := decide_eq_false c
    simp only [Option.bind_some] at h
    cases hp : probB a2 with
    | true =>
      rw [hp, if_pos rfl] at h
      simp only [splitE, Option.bind_some, Option.some.injEq, Prod.mk.injEq] at h
      obtain ⟨rfl, rfl⟩ := h
      have HP := Aside0.mk hp
      clear hp
      go_enter Try.func28, Try.ntmps28
      go_wp2_with fail
      refine (prob_same _ _).mono ?_
      rintro e w' ⟨rfl, rfl⟩
      rw [HP.out]
      go_wp2_with fail
      refine (split_calls _ _ _ _).mono ?_
      rintro e w' ⟨rfl, rfl⟩
      go_wp2_with fail
      go_ret2
      exact ⟨rfl, rfl⟩
    | false =>
      rw [hp] at h
      simp only [Bool.false_eq_true, ↓reduceIte, Option.some.injEq, Prod.mk.injEq] at h
      obtain ⟨rfl, rfl⟩ := h
      have HP := Aside0.mk hp
      clear hp
      go_enter Try.func28, Try.ntmps28
      go_wp2_with fail
      refine (prob_same _ _).mono ?_
      rintro e w' ⟨rfl, rfl⟩
      rw [HP.out]
      go_wp2_with fail
      go_ret2
      exact ⟨rfl, rfl⟩
set_option maxHeartbeats 800000 in
set_option maxRecDepth 100000 in
theorem at_same (A : Option Addr) (c : Nat) (l : List Int) (i b : Int) (w : World) (hr : Kd.C (Kd.int .u8) w A l.length l) (h : decoder_at.f l i = some b) :
    Calls Try.prog 92 #[.slice A l.length c, .int .i64 i] w fun e w' => e = .returned (.int .u8 b) ∧ w' = w := by
  have HR := Aside0.mk hr
  have hm : l.length ≤ 9223372036854775807 := hr.2.1
  clear hr
  unfold decoder_at.f at h
  by_cases c1 : i < (l.length : Int)
  · rw [if_pos c1] at h
    by_cases c0 : 0 ≤ i
    · rw [if_pos c0] at h
      obtain rfl := Option.some.inj h
      obtain ⟨n, rfl⟩ := Int.eq_ofNat_of_zero_le c0
      have hn : n < l.length := by omega
      obtain ⟨ad, rfl, hc⟩ := Cint_at' HR.out n hn
      have hv : rd l (n : Int) = l[n] := by unfold rd; rw [Int.toNat_natCast, List.getD_eq_getElem?_getD, List.getElem?_eq_getElem hn]; rfl
      have HV := Aside0.mk hv
      clear hv h
      go_enter Try.func92, Try.ntmps92
      go_wp2_with fail
      go_ret
      exact ⟨by rw [HV.out]; rfl, rfl⟩
    · rw [if_neg c0] at h
      cases h
  · rw [if_neg c1] at h
    obtain rfl := Option.some.inj h
    have c2 : decide (i < (l.length : Int)) = false := decide_eq_false c1
    go_enter Try.func92, Try.ntmps92
    go_wp2_with fail
    go_ret
    exact ⟨rfl, rfl⟩
def getl : Nat → Int → Int → Int → List Int → Int → Option (Int × Int × Int × Int)
  | 0, _, _, _, _, _ => none
  | k + 1, x1, x2, x, l, t => if x1 / 16777216 = x2 / 16777216 then ((decoder_at.f l t).bind fun b => getl k (x1 * 256 % 4294967296) (Go.bits .or .u32 (x2 * 256 % 4294967296) 255) (Go.bits .or .u32 (x * 256 % 4294967296) (b % 4294967296)) l (wrap64 (t + 1))) else some (x1, x2, x, t)
def getf (k : Nat) (x1 x2 x : Int) (l : List Int) (t p : Int) : Option (Int × Int × Int × Int × Bool) :=
  (encoder_Split.f x1 x2 p).bind fun m => if x ≤ m.1 then ((getl k x1 m.1 x l t).bind fun r => some (r.1, r.2.1, r.2.2.1, r.2.2.2, true)) else ((getl k ((m.1 + 1) % 4294967296) x2 x l t).bind fun r => some (r.1, r.2.1, r.2.2.1, r.2.2.2, false))

/-- What is known of the decoder behind the pointer: w0 is the world at the call. -/
structure DS (w0 W : World) (g : Nat) (y1 y2 y : Int) (v : Value) (t : Int) : Prop where
  blk : W.heap[g]? = some (.cells #[.int .u32 y1, .int .u32 y2, .int .u32 y, v, .int .i64 t] 72 (0, 0))
  grown : w0.grownBy W (some g)
section
variable {w0 W : World} {g : Nat} {y1 y2 y t : Int} {v : Value}
theorem only_setCell {a w : World} {g : Nat} (h : a.grownBy w (some g)) (i : Nat) (u : Value) : a.grownBy (w.setCell ⟨g, i, none⟩ u) (some g) :=
  ⟨h.os, h.tape, h.output, by simpa [World.setCell] using h.size, fun i hi hne => (Below.heap_setCell w _ u i (by
    rintro rfl
    exact hne rfl)).trans (h.block i hi hne)⟩
theorem only_drewN {a w : World} {row : Option Nat} (h : a.grownBy w row) (n : Nat) : a.grownBy (w.drewN n) row := ⟨h.os, h.tape, h.output, h.size, h.block⟩
theorem only_drew {a w : World} {row : Option Nat} (h : a.grownBy w row) : a.grownBy w.drew row := ⟨h.os, h.tape, h.output, h.size, h.block⟩
theorem DS.drewN (h : DS w0 W g y1 y2 y v t) (n : Nat) : DS w0 (W.drewN n) g y1 y2 y v t := ⟨blk_drewN h.blk n, only_drewN h.grown n⟩
theorem DS.drew (h : DS w0 W g y1 y2 y v t) : DS w0 W.drew g y1 y2 y v t := ⟨blk_drew h.blk, only_drew h.grown⟩
theorem DS.set0 (h : DS w0 W g y1 y2 y v t) (z : Int) : DS w0 (W.setCell ⟨g, 0, none⟩ (.int .u32 z)) g z y2 y v t := ⟨blk_put h.blk 0 _ rfl, only_setCell h.grown 0 _⟩
theorem DS.set1 (h : DS w0 W g y1 y2 y v t) (z : Int) : DS w0 (W.setCell ⟨g, 1, none⟩ (.int .u32 z)) g y1 z y v t := ⟨blk_put h.blk 1 _ rfl, only_setCell h.grown 1 _⟩
theorem DS.set2 (h : DS w0 W g y1 y2 y v t) (z : Int) : DS w0 (W.setCell ⟨g, 2, none⟩ (.int .u32 z)) g y1 y2 z v t := ⟨blk_put h.blk 2 _ rfl, only_setCell h.grown 2 _⟩
theorem DS.set4 (h : DS w0 W g y1 y2 y v t) (z : Int) : DS w0 (W.setCell ⟨g, 4, none⟩ (.int .i64 z)) g y1 y2 y v z := ⟨blk_put h.blk 4 _ rfl, only_setCell h.grown 4 _⟩
end
theorem still_tail {P : Program} {id : Nat} {Q : Exit → Act → World → Prop} {a : Act} {w : World} {l : List Oper} (n : Nat) (hm : P.follows .mixedOrders = true) (hB : Region.lexTailB .any l.toArray n = true)
    (h : ∀ w5, w5 = w.drew → wpStill P l.toArray w5 (fun a' => wpList P l.toArray Q (l.drop n) a' w5) (l.take n) a) : (Code.region id l.toArray true).wp P Q a w := wp_region_still_tail n hm hB (h _ rfl)
/-- A list that is read stays so where another block alone has turned. -/
theorem C_grown {α : Type} {d : Kd α} {w w1 : World} {A : Option Addr} {n : Nat} {xs : List α} (h : d.C w A n xs) {g : Nat} (hg : w.grownBy w1 (some g)) (hk : ∀ x c, d.K w x c → d.K w1 x c) (hne : ∀ ad, A = some ad → 0 < n → ad.block ≠ g) : d.C w1 A n xs := by
  refine ⟨h.1, h.2.1, fun hn => ?_⟩
  obtain ⟨ad, e, hc⟩ := h.2.2 hn
  refine ⟨ad, e, fun j p hp => ?_⟩
  obtain ⟨c, hl, hR, hcell⟩ := hc j p hp
  refine ⟨c, hl, hk _ _ hR, fun i u hu => ?_⟩
  have h1 := hcell i u hu
  have hb : (ad.add (j * d.sz + i)).block = ad.block := by unfold Addr.add; split <;> rfl
  have hlt := World.block_lt_of_cell? w _ h1
  rw [hb] at hlt
  refine (World.cell?_of_block ?_).trans h1
  rw [hb]
  exact hg.block _ hlt (fun e' => hne ad e hn (by injection e'))

set_option maxHeartbeats 1600000 in
set_option maxRecDepth 100000 in
theorem get_calls (k g : Nat) (x1 x2 x : Int) (A : Option Addr) (c : Nat) (l : List Int) (t p : Int) (r1 r2 rx rt : Int) (rb : Bool) (w : World)
    (hx : w.heap[g]? = some (.cells #[.int .u32 x1, .int .u32 x2, .int .u32 x, .slice A l.length c, .int .i64 t] 72 (0, 0))) (hr : Kd.C (Kd.int .u8) w A l.length l)
    (hne : ∀ ad, A = some ad → 0 < l.length → ad.block ≠ g) (h : getf k x1 x2 x l t p = some (r1, r2, rx, rt, rb)) :
    Calls Try.prog 82 #[.pointer (some ⟨g, 0, none⟩), .int .i64 p] w fun e w' => e = .returned (.bool rb) ∧ w'.heap[g]? = some (.cells #[.int .u32 r1, .int .u32 r2, .int .u32 rx, .slice A l.length c, .int .i64 rt] 72 (0, 0)) ∧ w.grownBy w' (some g) := by
  have HX := Aside0.mk hx
  have HR := Aside0.mk hr
  have HN := Aside0.mk hne
  clear hx hr hne
  obtain ⟨⟨m, e⟩, hm, h2⟩ := Option.bind_eq_some_iff.mp h
  have HM := Aside0.mk hm
  clear h hm
  have c0 : w.cell? ⟨g, 0, none⟩ = some (.int .u32 x1) := (blk_cell HX.out 0).trans rfl
  have c1 : w.cell? ⟨g, 1, none⟩ = some (.int .u32 x2) := (blk_cell HX.out 1).trans rfl
  have c2 : w.cell? ⟨g, 2, none⟩ = some (.int .u32 x) := (blk_cell HX.out 2).trans rfl
  have f0 := blk_frozen HX.out 0
  have f1 := blk_frozen HX.out 1
  have HS := Aside0.mk (show DS w w g x1 x2 x (.slice A l.length c) t from ⟨HX.out, World.grownBy.refl w _⟩)
  by_cases hq : x ≤ m
  · rw [if_pos hq] at h2
    obtain ⟨⟨q1, q2, q3, q4⟩, hg, h3⟩ := Option.bind_eq_some_iff.mp h2
    simp only [Option.some.injEq, Prod.mk.injEq] at h3
    obtain ⟨rfl, rfl, rfl, rfl, rfl⟩ := h3
    have HG := Aside0.mk hg
    have hq1 : decide (x ≤ m) = true := decide_eq_true hq
    clear hg h2 hq
    go_enter Try.func82, Try.ntmps82
    go_wp2_with fail
    go_quiet ((go_at_call 28; exact Calls.quiet_of_same (Split_same _ _ _ _ _ HM.out _)))
    go_wp2_with fail
    go_loopg [37] k (fun kq _ w' => ∃ (y1 y2 y s : Int), Aside0 (getl kq y1 y2 y l s = some (q1, q2, q3, q4)) ∧ Aside0 (DS w w' g y1 y2 y (.slice A l.length c) s))
    case atStart => exact ⟨_, _, _, _, HG, ⟨(HS.out.drewN _).set1 _⟩⟩
    case round =>
      clear c0 c1 c2 f0 f1 HS
      obtain ⟨y1, y2, y, s, HL, HD⟩ := hrel
      have d0 : wr.cell? ⟨g, 0, none⟩ = some (.int .u32 y1) := (blk_cell HD.out.blk 0).trans rfl
      have d1 : wr.cell? ⟨g, 1, none⟩ = some (.int .u32 y2) := (blk_cell HD.out.blk 1).trans rfl
      have d2 : wr.cell? ⟨g, 2, none⟩ = some (.int .u32 y) := (blk_cell HD.out.blk 2).trans rfl
      have d3 : wr.cell? ⟨g, 3, none⟩ = some (.slice A l.length c) := (blk_cell HD.out.blk 3).trans rfl
      have d4 : wr.cell? ⟨g, 4, none⟩ = some (.int .i64 s) := (blk_cell HD.out.blk 4).trans rfl
      have e0 := blk_frozen HD.out.blk 0
      have e1 := blk_frozen HD.out.blk 1
      have e2 := blk_frozen HD.out.blk 2
      have e4 := blk_frozen HD.out.blk 4
      cases gk with
      | zero => exact absurd HL.out (by simp [getl])
      | succ n =>
        have hl := HL.out
        rw [getl] at hl
        by_cases hq : y1 / 16777216 = y2 / 16777216
        · have hq0 : (y1 / 16777216 == y2 / 16777216) = true := beq_iff_eq.2 hq
          rw [if_pos hq] at hl
          obtain ⟨b, hb, hl2⟩ := Option.bind_eq_some_iff.mp hl
          have HBt := Aside0.mk hb
          have HL2 := Aside0.mk hl2
          clear hl hb hl2 hq HL
          go_wp2_with fail
          go_quiet (fail)
          go_wp2_with fail
          have HD2 := Aside0.mk ((((HD.out.drewN nq).set0 (y1 * 256 % 4294967296)).set1 (Go.bits .or .u32 (y2 * 256 % 4294967296) 255)).drew)
          refine still_tail 17 (by kernel_rfl) (by kernel_rfl) (fun w5 hw5 => ?_)
          rw [show (((wr.drewN nq).setCell ⟨g, 0, none⟩ (.int .u32 (y1 * 256 % 4294967296))).setCell ⟨g, 1, none⟩ (.int .u32 (Go.bits .or .u32 (y2 * 256 % 4294967296) 255))).drew = w5 from hw5.symm] at HD2
          clear hw5 d0 d1 d2 d3 d4 e0 e1 e2 e4
          have k2 : w5.cell? ⟨g, 2, none⟩ = some (.int .u32 y) := (blk_cell HD2.out.blk 2).trans rfl
          have k3 : w5.cell? ⟨g, 3, none⟩ = some (.slice A l.length c) := (blk_cell HD2.out.blk 3).trans rfl
          have k4 : w5.cell? ⟨g, 4, none⟩ = some (.int .i64 s) := (blk_cell HD2.out.blk 4).trans rfl
          have m2 := blk_frozen HD2.out.blk 2
          have m4 := blk_frozen HD2.out.blk 4
          simp only [List.take_succ_cons, List.take_zero, List.drop_succ_cons, List.drop_zero]
          iterate 14 still_step
          still_call (at_same A c l s b _ (C_grown HR.out HD2.out.grown (fun _ _ h => h) HN.out) HBt.out)
          repeat still_step
          try refine wpStill_nil ?_
          go_wp2_with fail
          go_roundg n
          case measure => omega
          case rel => exact ⟨_, _, _, _, HL2, ⟨(HD2.out.set2 _).set4 _⟩⟩
        · have hq0 : (y1 / 16777216 == y2 / 16777216) = false := beq_eq_false_iff_ne.2 hq
          rw [if_neg hq] at hl
          simp only [Option.some.injEq, Prod.mk.injEq] at hl
          obtain ⟨rfl, rfl, rfl, rfl⟩ := hl
          clear hq
          go_wp2_with fail
          go_quiet (fail)
          go_wp2_with fail
          go_ret
          exact ⟨rfl, (HD.out.drewN _).blk, (HD.out.drewN _).grown⟩
  · rw [if_neg hq] at h2
    obtain ⟨⟨q1, q2, q3, q4⟩, hg, h3⟩ := Option.bind_eq_some_iff.mp h2
    simp only [Option.some.injEq, Prod.mk.injEq] at h3
    obtain ⟨rfl, rfl, rfl, rfl, rfl⟩ := h3
    have HG := Aside0.mk hg
    have hq1 : decide (x ≤ m) = false := decide_eq_false hq
    clear hg h2 hq
    go_enter Try.func82, Try.ntmps82
    go_wp2_with fail
    go_quiet ((go_at_call 28; exact Calls.quiet_of_same (Split_same _ _ _ _ _ HM.out _)))
    go_wp2_with fail
    go_loopg [37] k (fun kq _ w' => ∃ (y1 y2 y s : Int), Aside0 (getl kq y1 y2 y l s = some (q1, q2, q3, q4)) ∧ Aside0 (DS w w' g y1 y2 y (.slice A l.length c) s))
    case atStart => exact ⟨_, _, _, _, HG, ⟨(HS.out.drewN _).set0 _⟩⟩
    case round =>
      clear c0 c1 c2 f0 f1 HS
      obtain ⟨y1, y2, y, s, HL, HD⟩ := hrel
      have d0 : wr.cell? ⟨g, 0, none⟩ = some (.int .u32 y1) := (blk_cell HD.out.blk 0).trans rfl
      have d1 : wr.cell? ⟨g, 1, none⟩ = some (.int .u32 y2) := (blk_cell HD.out.blk 1).trans rfl
      have d2 : wr.cell? ⟨g, 2, none⟩ = some (.int .u32 y) := (blk_cell HD.out.blk 2).trans rfl
      have d3 : wr.cell? ⟨g, 3, none⟩ = some (.slice A l.length c) := (blk_cell HD.out.blk 3).trans rfl
      have d4 : wr.cell? ⟨g, 4, none⟩ = some (.int .i64 s) := (blk_cell HD.out.blk 4).trans rfl
      have e0 := blk_frozen HD.out.blk 0
      have e1 := blk_frozen HD.out.blk 1
      have e2 := blk_frozen HD.out.blk 2
      have e4 := blk_frozen HD.out.blk 4
      cases gk with
      | zero => exact absurd HL.out (by simp [getl])
      | succ n =>
        have hl := HL.out
        rw [getl] at hl
        by_cases hq : y1 / 16777216 = y2 / 16777216
        · have hq0 : (y1 / 16777216 == y2 / 16777216) = true := beq_iff_eq.2 hq
          rw [if_pos hq] at hl
          obtain ⟨b, hb, hl2⟩ := Option.bind_eq_some_iff.mp hl
          have HBt := Aside0.mk hb
          have HL2 := Aside0.mk hl2
          clear hl hb hl2 hq HL
          go_wp2_with fail
          go_quiet (fail)
          go_wp2_with fail
          have HD2 := Aside0.mk ((((HD.out.drewN nq).set0 (y1 * 256 % 4294967296)).set1 (Go.bits .or .u32 (y2 * 256 % 4294967296) 255)).drew)
          refine still_tail 17 (by kernel_rfl) (by kernel_rfl) (fun w5 hw5 => ?_)
          rw [show (((wr.drewN nq).setCell ⟨g, 0, none⟩ (.int .u32 (y1 * 256 % 4294967296))).setCell ⟨g, 1, none⟩ (.int .u32 (Go.bits .or .u32 (y2 * 256 % 4294967296) 255))).drew = w5 from hw5.symm] at HD2
          clear hw5 d0 d1 d2 d3 d4 e0 e1 e2 e4
          have k2 : w5.cell? ⟨g, 2, none⟩ = some (.int .u32 y) := (blk_cell HD2.out.blk 2).trans rfl
          have k3 : w5.cell? ⟨g, 3, none⟩ = some (.slice A l.length c) := (blk_cell HD2.out.blk 3).trans rfl
          have k4 : w5.cell? ⟨g, 4, none⟩ = some (.int .i64 s) := (blk_cell HD2.out.blk 4).trans rfl
          have m2 := blk_frozen HD2.out.blk 2
          have m4 := blk_frozen HD2.out.blk 4
          simp only [List.take_succ_cons, List.take_zero, List.drop_succ_cons, List.drop_zero]
          iterate 14 still_step
          still_call (at_same A c l s b _ (C_grown HR.out HD2.out.grown (fun _ _ h => h) HN.out) HBt.out)
          repeat still_step
          try refine wpStill_nil ?_
          go_wp2_with fail
          go_roundg n
          case measure => omega
          case rel => exact ⟨_, _, _, _, HL2, ⟨(HD2.out.set2 _).set4 _⟩⟩
        · have hq0 : (y1 / 16777216 == y2 / 16777216) = false := beq_eq_false_iff_ne.2 hq
          rw [if_neg hq] at hl
          simp only [Option.some.injEq, Prod.mk.injEq] at hl
          obtain ⟨rfl, rfl, rfl, rfl⟩ := hl
          clear hq
          go_wp2_with fail
          go_quiet (fail)
          go_wp2_with fail
          go_ret
          exact ⟨rfl, (HD.out.drewN _).blk, (HD.out.drewN _).grown⟩
end Go.Proofs.Ytgapkifgddjijaa.Hand
