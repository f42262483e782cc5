/- The contract of encoder.put: it changes the encoder behind the pointer as putf says, and nothing else that was there but the row of its own bytes. -/
import Derived.Test.YtgapkifgddjijaaHandA
namespace Go.Proofs.Ytgapkifgddjijaa.Hand
open Go.RowKit Go.Proofs.YtgapkifgddjijaaW.PrintWords Go.Proofs.YtgapkifgddjijaaW.PrintLast Go.Proofs.YtgapkifgddjijaaW.PrintMore

def splitf (a0 a1 a2 : Int) : Int := (((a0 + (((((a1 - a0) % 4294967296) / 4096) * ((a2) % 4294967296)) % 4294967296)) % 4294967296) + ((((Go.bits .and .u32 ((a1 - a0) % 4294967296) 4095) * ((a2) % 4294967296)) % 4294967296) / 4096)) % 4294967296
set_option maxHeartbeats 800000 in
set_option maxRecDepth 100000 in
theorem split_calls (a0 a1 a2 : Int) (w : World) : Calls Try.prog 77 #[.int .u32 a0, .int .u32 a1, .int .i64 a2] w fun e w' => e = .returned (.int .u32 (splitf a0 a1 a2)) ∧ w' = w := by
  go_enter Try.func77, Try.ntmps77
  go_wp2
  go_ret
  exact ⟨by first | rfl | (simp [splitf]; done), rfl⟩

def putl : Nat → Int → Int → List Int → Option (Int × Int × List Int)
  | 0, _, _, _ => none
  | k + 1, x1, x2, out => if x1 / 16777216 = x2 / 16777216 then (if out.length < 140737488355328 then putl k (x1 * 256 % 4294967296) (Go.bits .or .u32 (x2 * 256 % 4294967296) 255) (out ++ [x2 / 16777216 % 256]) else none) else some (x1, x2, out)
def putf (k : Nat) (x1 x2 p : Int) (b : Bool) (out : List Int) : Option (Int × Int × List Int) :=
  if b = true then putl k x1 (splitf x1 x2 p) out else putl k ((splitf x1 x2 p + 1) % 4294967296) x2 out

section
variable {P : Program} {a : Act} {w : World} {Q : Exit → Act → World → Prop}
/-- A scope with one label that is jumped back to: what stands behind the label is shown once. -/
theorem wp_scope_pass {c rest : Code} (l : Nat) (I : Nat → Act → World → Prop) (hf : findLabel c l = some (Code.skip.seq rest))
    (pass : ∀ n a w, I n a w → ∀ J : Act → World → Prop, Aside0 (∀ n' a' w', n' < n → I n' a' w' → J a' w') → rest.wp P (Exit.jump l J Q) a w)
    (first : ∀ J : Act → World → Prop, Aside0 (∀ n a w, I n a w → rest.wp P (Exit.jump l J Q) a w) → c.wp P (Exit.jump l J Q) a w) : (Code.scope c).wp P Q a w := by
  refine wp_scope_jumps l (fun a w => ∃ n, I n a w) (fun a w => leastOf (fun n => I n a w)) hf ?_ ?_
  · exact first _ ⟨fun n a w h => pass n a w h _ ⟨fun n' a' w' _ h' => ⟨n', h'⟩⟩⟩
  · intro a w hJ
    refine wp_seq (wp_skip ?_)
    refine pass _ a w (leastOf_spec hJ).1 _ ⟨fun n' a' w' hlt hI => ?_⟩
    exact ⟨⟨n', hI⟩, Nat.lt_of_le_of_lt ((leastOf_spec ⟨n', hI⟩).2 n' hI) hlt⟩
end
/-- What is known of the encoder behind the pointer: w0 is the world at the call, v the bytes' slice there. -/
structure PS (w0 W : World) (base g : Nat) (v : Value) (y1 y2 : Int) (ys : List Int) (u : Value) : Prop where
  blk : W.heap[g]? = some (.cells #[.int .u32 y1, .int .u32 y2, u] 42 (0, 0))
  row : Kd.R (Kd.int .u8) 5 W base (fun _ => True) u ys
  kept : Kept w0 W (fun i => i = g ∨ some i = v.ownBlock)
  below : Below base w0 W
  own : ∀ q, u.ownBlock = some q → some q = v.ownBlock ∨ w0.heap.size ≤ q
section
variable {w0 W w1 : World} {base g : Nat} {v u v1 : Value} {y1 y2 : Int} {ys : List Int}
theorem PS.drewN (h : PS w0 W base g v y1 y2 ys u) (n : Nat) : PS w0 (W.drewN n) base g v y1 y2 ys u := ⟨blk_drewN h.blk n, Kd.R_drewN h.row n, h.kept.drewN n, pw_below_drewN h.below n, h.own⟩
theorem PS.drew (h : PS w0 W base g v y1 y2 ys u) : PS w0 W.drew base g v y1 y2 ys u := ⟨blk_drew h.blk, Kd.R_drew h.row, h.kept.drew, below_drew h.below, h.own⟩
theorem PS.set0 (h : PS w0 W base g v y1 y2 ys u) (hg : base ≤ g) (z : Int) : PS w0 (W.setCell ⟨g, 0, none⟩ (.int .u32 z)) base g v z y2 ys u :=
  ⟨blk_put h.blk 0 _ rfl, Kd.R_set h.row h.blk (by decide) 0 _, h.kept.setCell (.inl (.inl rfl)) _, h.below.setCell hg _, h.own⟩
theorem PS.set1 (h : PS w0 W base g v y1 y2 ys u) (hg : base ≤ g) (z : Int) : PS w0 (W.setCell ⟨g, 1, none⟩ (.int .u32 z)) base g v y1 z ys u :=
  ⟨blk_put h.blk 1 _ rfl, Kd.R_set h.row h.blk (by decide) 1 _, h.kept.setCell (.inl (.inl rfl)) _, h.below.setCell hg _, h.own⟩
theorem PS.appended (h : PS w0 W base g v y1 y2 ys u) (hg : base ≤ g) {zs : List Int} (ho : Kd.R (Kd.int .u8) 5 w1 base (fun _ => True) v1 zs) (hb : Below base w0 w1) (hw : W.grownBy w1 u.ownBlock)
    (ha : v1.ownBlock = u.ownBlock ∨ ∃ b, v1.ownBlock = some b ∧ W.heap.size ≤ b) : PS w0 (w1.setCell ⟨g, 2, none⟩ v1) base g v y1 y2 zs v1 := by
  have hblk := blk_grown h.blk hw (Kd.R_ne h.row h.blk (by decide))
  refine ⟨blk_put hblk 2 _ rfl, Kd.R_set ho hblk (by decide) 2 _, Kept.setCell (Kept.of_grown hw h.kept ?_) (.inl (.inl rfl)) _, hb.setCell hg _, ?_⟩
  · intro k hk
    rcases h.own k hk with e | e
    · exact .inl (.inr e)
    · exact .inr e
  · intro q hq
    rcases ha with e | ⟨b, e, hlt⟩
    · exact h.own q (e ▸ hq)
    · rw [e] at hq
      cases hq
      exact .inr (Nat.le_trans h.kept.1 hlt)
end
/-- What holds at the label. -/
def PutAt (w0 : World) (base g : Nat) (v : Value) (r : Int × Int × List Int) (n : Nat) (w : World) : Prop :=
  ∃ (y1 y2 : Int) (ys : List Int) (u : Value), putl n y1 y2 ys = some r ∧ PS w0 w base g v y1 y2 ys u
def PutFrame (w0 : World) (base g : Nat) (v : Value) (r : Int × Int × List Int) (n : Nat) (a : Act) (w : World) : Prop :=
  ∃ (u1 u2 u3 u4 u5 u6 u7 u8 u9 u10 u11 u12 u13 u14 u15 u16 u17 u18 u19 u20 u21 u22 u23 u24 u25 u26 u27 u28 u29 u30 u31 u32 u33 u34 u35 u36 u37 u38 u39 u40 u41 u42 u43 u44 u45 u46 u47 u48 u49 u50 u51 u52 u53 u54 u55 u56 u57 u58 u59 u60 u61 u62 u63 u64 u65 u66 u67 u68 : Value), a = { tmps := #[.pointer (some ⟨g, 0, none⟩), u1, u2, u3, u4, u5, u6, u7, u8, u9, u10, u11, u12, u13, u14, u15, u16, u17, u18, u19, u20, u21, u22, u23, u24, u25, u26, u27, u28, u29, u30, u31, u32, u33, u34, u35, u36, u37, u38, u39, u40, u41, u42, u43, u44, u45, u46, u47, u48, u49, u50, u51, u52, u53, u54, u55, u56, u57, u58, u59, u60, u61, u62, u63, u64, u65, u66, u67, u68], defers := [] } ∧ Aside0 (PutAt w0 base g v r n w)
set_option maxHeartbeats 800000 in
set_option maxRecDepth 100000 in
theorem put_calls (k : Nat) (base g : Nat) (x1 x2 p : Int) (b : Bool) (xs : List Int) (v : Value) (r1 r2 : Int) (rs : List Int) (w : World) (hbase : base ≤ g) (hsz : base ≤ w.heap.size)
    (hx : w.heap[g]? = some (.cells #[.int .u32 x1, .int .u32 x2, v] 42 (0, 0))) (hv : Kd.R (Kd.int .u8) 5 w base (fun _ => True) v xs) (h : putf k x1 x2 p b xs = some (r1, r2, rs)) :
    Calls Try.prog 73 #[.pointer (some ⟨g, 0, none⟩), .int .i64 p, .bool b] w fun e w' => ∃ v' : Value, e = .returned (.tuple #[]) ∧ w'.heap[g]? = some (.cells #[.int .u32 r1, .int .u32 r2, v'] 42 (0, 0)) ∧
      Kd.R (Kd.int .u8) 5 w' base (fun _ => True) v' rs ∧ Kept w w' (fun i => i = g ∨ some i = v.ownBlock) ∧ Below base w w' := by
  have HX := Aside0.mk hx
  have HV := Aside0.mk hv
  have H := Aside0.mk h
  clear hx hv h
  go_enter Try.func73, Try.ntmps73
  go_wp2_with fail
  refine wp_scope_pass 0 (PutFrame w base g v (r1, r2, rs)) rfl ?_ ?_
  · rintro n a' w' ⟨u1, u2, u3, u4, u5, u6, u7, u8, u9, u10, u11, u12, u13, u14, u15, u16, u17, u18, u19, u20, u21, u22, u23, u24, u25, u26, u27, u28, u29, u30, u31, u32, u33, u34, u35, u36, u37, u38, u39, u40, u41, u42, u43, u44, u45, u46, u47, u48, u49, u50, u51, u52, u53, u54, u55, u56, u57, u58, u59, u60, u61, u62, u63, u64, u65, u66, u67, u68, rfl, HP⟩ J hJ
    obtain ⟨y1, y2, ys, u, hl, hps⟩ := HP.out
    have HL := Aside0.mk hl
    have HS := Aside0.mk hps
    clear hl hps HP
    have c0 : w'.cell? ⟨g, 0, none⟩ = some (.int .u32 y1) := (blk_cell HS.out.blk 0).trans rfl
    have c1 : w'.cell? ⟨g, 1, none⟩ = some (.int .u32 y2) := (blk_cell HS.out.blk 1).trans rfl
    have c2 : w'.cell? ⟨g, 2, none⟩ = some u := (blk_cell HS.out.blk 2).trans rfl
    have hgl : g < w'.heap.size := blk_lt HS.out.blk
    have f0 := blk_frozen HS.out.blk 0
    have f1 := blk_frozen HS.out.blk 1
    have f2 := blk_frozen HS.out.blk 2
    by_cases hq : y1 / 16777216 = y2 / 16777216
    · have hq0 : (y1 / 16777216 == y2 / 16777216) = true := beq_iff_eq.2 hq
      clear hq
      cases n with
      | zero => exact absurd HL.out (by simp [putl])
      | succ n =>
        have hl := HL.out
        rw [putl, if_pos (beq_iff_eq.1 hq0)] at hl
        by_cases hlen : ys.length < 140737488355328
        case neg => rw [if_neg hlen] at hl; cases hl
        case pos =>
        rw [if_pos hlen] at hl
        have HL2 := Aside0.mk hl
        have HLEN := Aside0.mk hlen
        clear hl hlen HL
        have c2a : ∀ (m : Nat) (o : Obj), ((w'.drewN m).alloc o).cell? ⟨g, 2, none⟩ = some u := fun m o => (World.cell?_alloc_lt _ _ _ hgl).trans c2
        go_wp2_with fail
        go_quiet (fail)
        go_wp2_with fail
        go_region_law (refine Kd.R_append_step (Kd.int .u8) (w0 := w) base (by rfl) (.tmp 42) (.tmp 49) 30 5 (.int .u8 0) 1 rfl Try.underlying30 info5 rfl (by decide) (by omega) u ys (IntKind.u8.wrap (y2 / 16777216)) [.int .u8 (IntKind.u8.wrap (y2 / 16777216))] (fun _ => True) (fun _ => False) rfl rfl ?aP (fun _ hk => hk.elim) ?aF ?aO ?aB ?aS ?aL ?_; (case aP => exact rfl); (case aB => exact (by repeat (first | (with_reducible first | exact HS.out.below | apply below_alloc | apply pw_below_drewN | apply below_drew1) | exact HS.out.below))); (case aF => exact (fun _ _ => trivial)); (case aO => exact (by (with_reducible repeat (first | apply Kd.R_alloc | apply Kd.R_drewN | apply Kd.R_drew)); exact HS.out.row)); (case aS => exact (Nat.le_trans hsz (by simpa using HS.out.below.size))); (case aL => have := HLEN.out; omega); intro v1 w1 ho1 hb1 hg1 hat1; rw [IntKind.wrap_u8] at ho1; obtain ⟨A1, cc1, hv1⟩ := Kd.R_slice ho1; simp only [List.length_append, List.length_cons, List.length_nil, Nat.zero_add] at hv1; subst hv1; have HG := Aside0.mk (blk_grown (g := g) (o := .cells #[.int .u32 y1, .int .u32 y2, u] 42 (0, 0)) (by (with_reducible repeat (first | refine blk_drewN ?_ _ | refine blk_drew ?_ | refine blk_alloc ?_ _)); exact HS.out.blk) hg1 (Kd.R_ne HS.out.row HS.out.blk (by decide))); have HW1 := Aside0.mk hg1; have HO1 := Aside0.mk ho1; have HB1 := Aside0.mk hb1; have HA1 := Aside0.mk hat1; clear hg1 ho1 hb1 hat1; have k0 : w1.cell? ⟨g, 0, none⟩ = some (.int .u32 y1) := (blk_cell HG.out 0).trans rfl; have k1 : w1.cell? ⟨g, 1, none⟩ = some (.int .u32 y2) := (blk_cell HG.out 1).trans rfl; have k2 : w1.cell? ⟨g, 2, none⟩ = some u := (blk_cell HG.out 2).trans rfl; have e0 := blk_frozen HG.out 0; have e1 := blk_frozen HG.out 1; have e2 := blk_frozen HG.out 2)
        all_goals go_wp2_with fail
        all_goals (go_step3; refine ⟨rfl, hJ.out n _ _ (by omega) ⟨_, _, _, _, _, _, _, _, _, _, _, _, _, _, _, _, _, _, _, _, _, _, _, _, _, _, _, _, _, _, _, _, _, _, _, _, _, _, _, _, _, _, _, _, _, _, _, _, _, _, _, _, _, _, _, _, _, _, _, _, _, _, _, _, _, _, _, _, rfl, ⟨_, _, _, _, HL2.out, ((((HS.out.drewN _).appended hbase HO1.out HB1.out HW1.out HA1.out).set0 hbase _).set1 hbase _)⟩⟩⟩)
    · have hq0 : (y1 / 16777216 == y2 / 16777216) = false := beq_eq_false_iff_ne.2 hq
      cases n with
      | zero => exact absurd HL.out (by simp [putl])
      | succ n =>
        have hl := HL.out
        rw [putl, if_neg hq] at hl
        simp only [Option.some.injEq, Prod.mk.injEq] at hl
        obtain ⟨rfl, rfl, rfl⟩ := hl
        clear HL hq
        go_wp2_with fail
        go_quiet (fail)
        go_wp2_with fail
        simp only [Exit.jump]
        go_end0
        exact ⟨u, rfl, (HS.out.drewN _).blk, (HS.out.drewN _).row, (HS.out.drewN _).kept, (HS.out.drewN _).below⟩
  · intro J hR
    have c0 : w.cell? ⟨g, 0, none⟩ = some (.int .u32 x1) := (blk_cell HX.out 0).trans rfl
    have c1 : w.cell? ⟨g, 1, none⟩ = some (.int .u32 x2) := (blk_cell HX.out 1).trans rfl
    have f0 := blk_frozen HX.out 0
    have f1 := blk_frozen HX.out 1
    have HS := Aside0.mk (show PS w w base g v x1 x2 xs v from ⟨HX.out, HV.out, Kept.refl _ _, Below.refl _ _, fun q hq => .inl hq.symm⟩)
    cases b with
    | true =>
      go_wp2_with fail
      go_quiet ((go_at_call 77; exact Calls.quiet_of_same (split_calls _ _ _ _)))
      rename_i K1 hK1 K2 hK2
      have HK1 := Aside0.mk hK1
      clear hK1
      go_wp2_with fail
      refine HK1.out _ _ (wp_seq (wp_label ?_))
      refine hR.out k _ _ ?_
      exact ⟨_, _, _, _, _, _, _, _, _, _, _, _, _, _, _, _, _, _, _, _, _, _, _, _, _, _, _, _, _, _, _, _, _, _, _, _, _, _, _, _, _, _, _, _, _, _, _, _, _, _, _, _, _, _, _, _, _, _, _, _, _, _, _, _, _, _, _, _, rfl, ⟨_, _, _, _, H.out, ((HS.out.drewN _).set1 hbase _)⟩⟩
    | false =>
      go_wp2_with fail
      go_quiet ((go_at_call 77; exact Calls.quiet_of_same (split_calls _ _ _ _)))
      rename_i K1 hK1 K2 hK2
      have HK1 := Aside0.mk hK1
      clear hK1
      go_wp2_with fail
      refine HK1.out _ _ (wp_seq (wp_label ?_))
      refine hR.out k _ _ ?_
      exact ⟨_, _, _, _, _, _, _, _, _, _, _, _, _, _, _, _, _, _, _, _, _, _, _, _, _, _, _, _, _, _, _, _, _, _, _, _, _, _, _, _, _, _, _, _, _, _, _, _, _, _, _, _, _, _, _, _, _, _, _, _, _, _, _, _, _, _, _, _, rfl, ⟨_, _, _, _, H.out, ((HS.out.drewN _).set0 hbase _)⟩⟩
end Go.Proofs.Ytgapkifgddjijaa.Hand
