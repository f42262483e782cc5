/- The contract of the reference's Parse. Written by wip/s1/mkrparse.py. -/
import Derived.Test.YtbldecdipicddaaDoorHParse
set_option linter.unusedSimpArgs false
set_option linter.unusedVariables false
namespace Go.Proofs.YtbldecdipicddaaDoor.Hand
open Go Go.RowKit Go.Proofs.YtbldecdipicddaaDoorW.PrintWords Go.Proofs.YtbldecdipicddaaDoorW.PrintLast Go.Proofs.YtbldecdipicddaaDoorW.PrintMore
theorem C_get {k : IntKind} {w : World} {ad : Addr} {n m : Nat} {xs : List Int} (h : Kd.C (Kd.int k) w (some ad) n xs) (hl : xs.length = m) (i : Nat) (hi : i < m) : w.cell? (ad.add i) = some (.int k (xs.getD i 0)) := by
  subst hl
  obtain ⟨_, e, hc⟩ := Cint_at h i hi
  cases e
  exact hc
theorem C_get0 {k : IntKind} {w : World} {ad : Addr} {n m : Nat} {xs : List Int} (h : Kd.C (Kd.int k) w (some ad) n xs) (hl : xs.length = m) (hi : 0 < m) : w.cell? ad = some (.int k (xs.getD 0 0)) := by
  have := C_get h hl 0 hi
  rwa [Addr.add_zero'] at this
theorem C_getb {k : IntKind} {w : World} {ad : Addr} {n m : Nat} {xs : List Int} (h : Kd.C (Kd.int k) w (some ad) n xs) (hl : xs.length = m) (i : Nat) (hi : i < m) {b : Int} (hb : xs.getD i 0 = b) : w.cell? (ad.add i) = some (.int k b) := hb ▸ C_get h hl i hi
theorem C_getb0 {k : IntKind} {w : World} {ad : Addr} {n m : Nat} {xs : List Int} (h : Kd.C (Kd.int k) w (some ad) n xs) (hl : xs.length = m) (hi : 0 < m) {b : Int} (hb : xs.getD 0 0 = b) : w.cell? ad = some (.int k b) := hb ▸ C_get0 h hl hi
theorem arr_set (V : List Value) (k : IntKind) (cs : List Int) (i : Nat) (b : Int) (n : Nat) (hV : V.length = n) : ((V ++ cs.map (Value.int k)).toArray : Array Value).setIfInBounds (n + i) (.int k b) = (V ++ (cs.set i b).map (Value.int k)).toArray := by
  subst hV
  simp [List.map_set]
theorem getD_drop (l : List Int) (n i : Nat) : (l.drop n).getD i 0 = l.getD (n + i) 0 := by simp [List.getD_eq_getElem?_getD]
theorem take_set {cs ys : List Int} {i : Nat} {b : Int} (h : cs.take i = ys.take i) (hc : i < cs.length) (hy : i < ys.length) (hb : ys.getD i 0 = b) : (cs.set i b).take (i + 1) = ys.take (i + 1) := by
  subst hb
  apply List.ext_getElem?
  intro j
  have e := congrArg (fun z => z[j]?) h
  simp only [List.getElem?_take, List.getElem?_set, List.getD_eq_getElem?_getD] at e ⊢
  by_cases h1 : j < i + 1
  · by_cases h2 : i = j
    · subst h2
      simp [hc, hy]
    · rw [if_pos (by omega), if_pos (by omega)] at e
      simp [h1, h2, e]
  · simp [h1]
theorem storeN_run {P : Program} {o : Oper} {a : Act} {W w1 : World} {T : TypeId} {p : Tmp} {v : Operand} (ho : o.op = .store T (.tmp p) v) {g off : Nat} {vs : List Value}
    (hx : a.eval (.tmp p) = .pointer (some ⟨g, off, none⟩)) (hy : a.eval v = .agg vs.toArray) (hs : (storeVar T ⟨g, off, none⟩ (.agg vs.toArray)).run P W = .ok () w1) : (execOp a.eval o).run P W = .ok .skip w1 := by
  unfold execOp
  simp only [ho, hx, hy, Instr.storeAt, Instr.sureAddr, Sem.run_bind, Sem.run_pure, Result.andThen_ok, hs]
set_option maxHeartbeats 3200000 in
set_option maxRecDepth 100000 in
theorem RParse_calls (ad : Addr) (c : Nat) (l : List Int) (w : World) (hr : Kd.C (Kd.int .u8) w (some ad) 28 l) (hl : l.length = 28) (b0 b1 b2 b3 b4 b5 b6 b7 s0 s1 s2 s3 s4 s5 s6 s7 s8 s9 s10 s11 s12 s13 s14 s15 s16 s17 s18 s19 r : Int) (hb0 : l.getD 0 0 = b0) (hb1 : l.getD 1 0 = b1) (hb2 : l.getD 2 0 = b2) (hb3 : l.getD 3 0 = b3) (hb4 : l.getD 4 0 = b4) (hb5 : l.getD 5 0 = b5) (hb6 : l.getD 6 0 = b6) (hb7 : l.getD 7 0 = b7) (hS : l.drop 8 = [s0, s1, s2, s3, s4, s5, s6, s7, s8, s9, s10, s11, s12, s13, s14, s15, s16, s17, s18, s19])
    (hchk : ∀ W : World, Calls Tryd.prog 26 #[.agg #[.int .u8 (b0), .int .i64 (wrap64 b1), .int .i64 (wrap64 (wrap64 (wrap64 b2 * 256) + wrap64 b3)), .int .i64 (wrap64 (wrap64 (wrap64 b4 * 256) + wrap64 b5)), .int .i64 (wrap64 (wrap64 (wrap64 b6 * 256) + wrap64 b7)), .int .u8 s0, .int .u8 s1, .int .u8 s2, .int .u8 s3, .int .u8 s4, .int .u8 s5, .int .u8 s6, .int .u8 s7, .int .u8 s8, .int .u8 s9, .int .u8 s10, .int .u8 s11, .int .u8 s12, .int .u8 s13, .int .u8 s14, .int .u8 s15, .int .u8 s16, .int .u8 s17, .int .u8 s18, .int .u8 s19]] W fun e w' => e = .returned (.int .i64 r) ∧ Below W.heap.size W w') :
    Calls Tryd.prog 24 #[.slice (some ad) 28 c] w fun e w' => e = .returned (.tuple #[.agg (if r = 0 then #[.int .u8 (b0), .int .i64 (wrap64 b1), .int .i64 (wrap64 (wrap64 (wrap64 b2 * 256) + wrap64 b3)), .int .i64 (wrap64 (wrap64 (wrap64 b4 * 256) + wrap64 b5)), .int .i64 (wrap64 (wrap64 (wrap64 b6 * 256) + wrap64 b7)), .int .u8 s0, .int .u8 s1, .int .u8 s2, .int .u8 s3, .int .u8 s4, .int .u8 s5, .int .u8 s6, .int .u8 s7, .int .u8 s8, .int .u8 s9, .int .u8 s10, .int .u8 s11, .int .u8 s12, .int .u8 s13, .int .u8 s14, .int .u8 s15, .int .u8 s16, .int .u8 s17, .int .u8 s18, .int .u8 s19] else #[.int .u8 0, .int .i64 0, .int .i64 0, .int .i64 0, .int .i64 0, .int .u8 0, .int .u8 0, .int .u8 0, .int .u8 0, .int .u8 0, .int .u8 0, .int .u8 0, .int .u8 0, .int .u8 0, .int .u8 0, .int .u8 0, .int .u8 0, .int .u8 0, .int .u8 0, .int .u8 0, .int .u8 0, .int .u8 0, .int .u8 0, .int .u8 0, .int .u8 0]), .int .i64 (if r = 0 then 0 else 12)]) ∧ Below w.heap.size w w' := by
  have HCK := Aside0.mk hchk
  have HS := Aside0.mk hS
  clear hchk hS
  have HR := Aside0.mk hr
  have HL := Aside0.mk hl
  have HB0 := Aside0.mk hb0; have HB1 := Aside0.mk hb1; have HB2 := Aside0.mk hb2; have HB3 := Aside0.mk hb3; have HB4 := Aside0.mk hb4; have HB5 := Aside0.mk hb5; have HB6 := Aside0.mk hb6; have HB7 := Aside0.mk hb7
  clear hr hl hb0 hb1 hb2 hb3 hb4 hb5 hb6 hb7
  go_enter Tryd.func24, Tryd.ntmps24
  go_wp2_with (first | ((with_reducible refine gate_dst (N := 2) rfl ?_); refine box_event ?hg (N := 2) ?hd (cs := #[.int .u8 0, .int .i64 0, .int .i64 0, .int .i64 0, .int .i64 0, .int .u8 0, .int .u8 0, .int .u8 0, .int .u8 0, .int .u8 0, .int .u8 0, .int .u8 0, .int .u8 0, .int .u8 0, .int .u8 0, .int .u8 0, .int .u8 0, .int .u8 0, .int .u8 0, .int .u8 0, .int .u8 0, .int .u8 0, .int .u8 0, .int .u8 0, .int .u8 0]) (t := 25) ?hr ?_; (case hd => rfl); (case hg => rfl); (case hr => first | (go_simp; done) | (go_simp; rfl)); intro gA hgA wA hbgA hBgA; have HA := Aside0.mk hbgA; have BA := Aside0.mk hBgA; have GA : w.heap.size ≤ gA := Nat.le_of_eq hgA.symm; clear hbgA hBgA hgA))
  have HA5 := Aside0.mk (blk_drew HA.out)
  have B5 := Aside0.mk (below_drew BA.out)
  have HC5 := Aside0.mk (Kd.C_below HR.out B5.out)
  clear HA BA
  refine start_ (n := 40) (S := fun w' => w'.cell? ad = some (.int .u8 b0) ∧ w'.cell? ⟨ad.block, ad.off + 1, none⟩ = some (.int .u8 b1) ∧ w'.cell? ⟨ad.block, ad.off + 2, none⟩ = some (.int .u8 b2) ∧ w'.cell? ⟨ad.block, ad.off + 3, none⟩ = some (.int .u8 b3) ∧ w'.cell? ⟨ad.block, ad.off + 4, none⟩ = some (.int .u8 b4) ∧ w'.cell? ⟨ad.block, ad.off + 5, none⟩ = some (.int .u8 b5) ∧ w'.cell? ⟨ad.block, ad.off + 6, none⟩ = some (.int .u8 b6) ∧ w'.cell? ⟨ad.block, ad.off + 7, none⟩ = some (.int .u8 b7)) (ds := [39]) #[false, false, false, false, false, false, false, false, false, false, false, false, false, false, false, false, false, false, false, false, false, false, false, false, false, false, false, false, false, false, false, false, false, false, false, false, false, false, false, false] (by kernel_rfl) rfl rfl ⟨(C_getb0 HC5.out HL.out (by omega) HB0.out), (C_getb HC5.out HL.out 1 (by omega) HB1.out), (C_getb HC5.out HL.out 2 (by omega) HB2.out), (C_getb HC5.out HL.out 3 (by omega) HB3.out), (C_getb HC5.out HL.out 4 (by omega) HB4.out), (C_getb HC5.out HL.out 5 (by omega) HB5.out), (C_getb HC5.out HL.out 6 (by omega) HB6.out), (C_getb HC5.out HL.out 7 (by omega) HB7.out)⟩ (fun hHeld => ?_)
  generalize wA.drew = w5 at HA5 B5 HC5 hHeld ⊢
  refine pure_ (i := 0) (N := some 10) (v := ?_) (a' := ?_) #[true, false, false, false, false, false, false, false, false, false, false, false, false, false, false, false, false, false, false, false, false, false, false, false, false, false, false, false, false, false, false, false, false, false, false, false, false, false, false, false] rfl rfl (by kernel_rfl) (fun _ _ _ h => h) (Or.inl ⟨by rfl, ?_⟩) ?_ ?_
  rotate_left
  · intro w'
    go_simp
    with_reducible rfl
  rotate_left
  · simp only [Act.put, List.setIfInBounds_toArray, List.set_cons_zero, List.set_cons_succ, i64_w, i32_w]
    rfl
  refine pure_ (i := 1) (N := some 11) (v := ?_) (a' := ?_) #[true, true, false, false, false, false, false, false, false, false, false, false, false, false, false, false, false, false, false, false, false, false, false, false, false, false, false, false, false, false, false, false, false, false, false, false, false, false, false, false] rfl rfl (by kernel_rfl) (fun _ _ _ h => h) (Or.inl ⟨by rfl, ?_⟩) ?_ ?_
  rotate_left
  · intro w'
    go_simp
    with_reducible rfl
  rotate_left
  · simp only [Act.put, List.setIfInBounds_toArray, List.set_cons_zero, List.set_cons_succ, i64_w, i32_w]
    rfl
  refine pure_ (i := 3) (N := some 13) (v := ?_) (a' := ?_) #[true, true, false, true, false, false, false, false, false, false, false, false, false, false, false, false, false, false, false, false, false, false, false, false, false, false, false, false, false, false, false, false, false, false, false, false, false, false, false, false] rfl rfl (by kernel_rfl) (fun _ _ _ h => h) (Or.inl ⟨by rfl, ?_⟩) ?_ ?_
  rotate_left
  · intro w'
    go_simp
    with_reducible rfl
  rotate_left
  · simp only [Act.put, List.setIfInBounds_toArray, List.set_cons_zero, List.set_cons_succ, i64_w, i32_w]
    rfl
  refine pure_ (i := 4) (N := some 14) (v := ?_) (a' := ?_) #[true, true, false, true, true, false, false, false, false, false, false, false, false, false, false, false, false, false, false, false, false, false, false, false, false, false, false, false, false, false, false, false, false, false, false, false, false, false, false, false] rfl rfl (by kernel_rfl) (fun _ _ _ h => h) (Or.inl ⟨by rfl, ?_⟩) ?_ ?_
  rotate_left
  · intro w'
    go_simp
    with_reducible rfl
  rotate_left
  · simp only [Act.put, List.setIfInBounds_toArray, List.set_cons_zero, List.set_cons_succ, i64_w, i32_w]
    rfl
  refine pure_ (i := 7) (N := some 17) (v := ?_) (a' := ?_) #[true, true, false, true, true, false, false, true, false, false, false, false, false, false, false, false, false, false, false, false, false, false, false, false, false, false, false, false, false, false, false, false, false, false, false, false, false, false, false, false] rfl rfl (by kernel_rfl) (fun _ _ _ h => h) (Or.inl ⟨by rfl, ?_⟩) ?_ ?_
  rotate_left
  · intro w'
    go_simp
    with_reducible rfl
  rotate_left
  · simp only [Act.put, List.setIfInBounds_toArray, List.set_cons_zero, List.set_cons_succ, i64_w, i32_w]
    rfl
  refine pure_ (i := 8) (N := some 18) (v := ?_) (a' := ?_) #[true, true, false, true, true, false, false, true, true, false, false, false, false, false, false, false, false, false, false, false, false, false, false, false, false, false, false, false, false, false, false, false, false, false, false, false, false, false, false, false] rfl rfl (by kernel_rfl) (fun _ _ _ h => h) (Or.inl ⟨by rfl, ?_⟩) ?_ ?_
  rotate_left
  · intro w'
    go_simp
    with_reducible rfl
  rotate_left
  · simp only [Act.put, List.setIfInBounds_toArray, List.set_cons_zero, List.set_cons_succ, i64_w, i32_w]
    rfl
  refine pure_ (i := 12) (N := some 22) (v := ?_) (a' := ?_) #[true, true, false, true, true, false, false, true, true, false, false, false, true, false, false, false, false, false, false, false, false, false, false, false, false, false, false, false, false, false, false, false, false, false, false, false, false, false, false, false] rfl rfl (by kernel_rfl) (fun _ _ _ h => h) (Or.inl ⟨by rfl, ?_⟩) ?_ ?_
  rotate_left
  · intro w'
    go_simp
    with_reducible rfl
  rotate_left
  · simp only [Act.put, List.setIfInBounds_toArray, List.set_cons_zero, List.set_cons_succ, i64_w, i32_w]
    rfl
  refine pure_ (i := 13) (N := some 23) (v := ?_) (a' := ?_) #[true, true, false, true, true, false, false, true, true, false, false, false, true, true, false, false, false, false, false, false, false, false, false, false, false, false, false, false, false, false, false, false, false, false, false, false, false, false, false, false] rfl rfl (by kernel_rfl) (fun _ _ _ h => h) (Or.inl ⟨by rfl, ?_⟩) ?_ ?_
  rotate_left
  · intro w'
    go_simp
    with_reducible rfl
  rotate_left
  · simp only [Act.put, List.setIfInBounds_toArray, List.set_cons_zero, List.set_cons_succ, i64_w, i32_w]
    rfl
  refine pure_ (i := 17) (N := some 27) (v := ?_) (a' := ?_) #[true, true, false, true, true, false, false, true, true, false, false, false, true, true, false, false, false, true, false, false, false, false, false, false, false, false, false, false, false, false, false, false, false, false, false, false, false, false, false, false] rfl rfl (by kernel_rfl) (fun _ _ _ h => h) (Or.inl ⟨by rfl, ?_⟩) ?_ ?_
  rotate_left
  · intro w'
    go_simp
    with_reducible rfl
  rotate_left
  · simp only [Act.put, List.setIfInBounds_toArray, List.set_cons_zero, List.set_cons_succ, i64_w, i32_w]
    rfl
  refine pure_ (i := 18) (N := some 28) (v := ?_) (a' := ?_) #[true, true, false, true, true, false, false, true, true, false, false, false, true, true, false, false, false, true, true, false, false, false, false, false, false, false, false, false, false, false, false, false, false, false, false, false, false, false, false, false] rfl rfl (by kernel_rfl) (fun _ _ _ h => h) (Or.inl ⟨by rfl, ?_⟩) ?_ ?_
  rotate_left
  · intro w'
    go_simp
    with_reducible rfl
  rotate_left
  · simp only [Act.put, List.setIfInBounds_toArray, List.set_cons_zero, List.set_cons_succ, i64_w, i32_w]
    rfl
  refine pure_ (i := 22) (N := some 32) (v := ?_) (a' := ?_) #[true, true, false, true, true, false, false, true, true, false, false, false, true, true, false, false, false, true, true, false, false, false, true, false, false, false, false, false, false, false, false, false, false, false, false, false, false, false, false, false] rfl rfl (by kernel_rfl) (fun _ _ _ h => h) (Or.inl ⟨by rfl, ?_⟩) ?_ ?_
  rotate_left
  · intro w'
    go_simp
    with_reducible rfl
  rotate_left
  · simp only [Act.put, List.setIfInBounds_toArray, List.set_cons_zero, List.set_cons_succ, i64_w, i32_w]
    rfl
  refine pure_ (i := 23) (N := some 33) (v := ?_) (a' := ?_) #[true, true, false, true, true, false, false, true, true, false, false, false, true, true, false, false, false, true, true, false, false, false, true, true, false, false, false, false, false, false, false, false, false, false, false, false, false, false, false, false] rfl rfl (by kernel_rfl) (fun _ _ _ h => h) (Or.inl ⟨by rfl, ?_⟩) ?_ ?_
  rotate_left
  · intro w'
    go_simp
    with_reducible rfl
  rotate_left
  · simp only [Act.put, List.setIfInBounds_toArray, List.set_cons_zero, List.set_cons_succ, i64_w, i32_w]
    rfl
  refine pure_ (i := 27) (N := some 37) (v := ?_) (a' := ?_) #[true, true, false, true, true, false, false, true, true, false, false, false, true, true, false, false, false, true, true, false, false, false, true, true, false, false, false, true, false, false, false, false, false, false, false, false, false, false, false, false] rfl rfl (by kernel_rfl) (fun _ _ _ h => h) (Or.inl ⟨by rfl, ?_⟩) ?_ ?_
  rotate_left
  · intro w'
    go_simp
    with_reducible rfl
  rotate_left
  · simp only [Act.put, List.setIfInBounds_toArray, List.set_cons_zero, List.set_cons_succ, i64_w, i32_w]
    rfl
  refine pure_ (i := 28) (N := some 38) (v := ?_) (a' := ?_) #[true, true, false, true, true, false, false, true, true, false, false, false, true, true, false, false, false, true, true, false, false, false, true, true, false, false, false, true, true, false, false, false, false, false, false, false, false, false, false, false] rfl rfl (by kernel_rfl) (fun _ _ _ h => h) (Or.inl ⟨by rfl, ?_⟩) ?_ ?_
  rotate_left
  · intro w'
    go_simp
    with_reducible rfl
  rotate_left
  · simp only [Act.put, List.setIfInBounds_toArray, List.set_cons_zero, List.set_cons_succ, i64_w, i32_w]
    rfl
  refine pure_ (i := 32) (N := some 42) (v := ?_) (a' := ?_) #[true, true, false, true, true, false, false, true, true, false, false, false, true, true, false, false, false, true, true, false, false, false, true, true, false, false, false, true, true, false, false, false, true, false, false, false, false, false, false, false] rfl rfl (by kernel_rfl) (fun _ _ _ h => h) (Or.inl ⟨by rfl, ?_⟩) ?_ ?_
  rotate_left
  · intro w'
    go_simp
    with_reducible rfl
  rotate_left
  · simp only [Act.put, List.setIfInBounds_toArray, List.set_cons_zero, List.set_cons_succ, i64_w, i32_w]
    rfl
  refine pure_ (i := 33) (N := some 43) (v := ?_) (a' := ?_) #[true, true, false, true, true, false, false, true, true, false, false, false, true, true, false, false, false, true, true, false, false, false, true, true, false, false, false, true, true, false, false, false, true, true, false, false, false, false, false, false] rfl rfl (by kernel_rfl) (fun _ _ _ h => h) (Or.inl ⟨by rfl, ?_⟩) ?_ ?_
  rotate_left
  · intro w'
    go_simp
    with_reducible rfl
  rotate_left
  · simp only [Act.put, List.setIfInBounds_toArray, List.set_cons_zero, List.set_cons_succ, i64_w, i32_w]
    rfl
  refine take_ (i := 2) (N := some 12) (v := ?_) (a' := ?_) #[true, true, true, true, true, false, false, true, true, false, false, false, true, true, false, false, false, true, true, false, false, false, true, true, false, false, false, true, true, false, false, false, true, true, false, false, false, false, false, false] rfl rfl (by kernel_rfl) (fun _ _ _ h => h) (Or.inl ⟨by rfl, ?_⟩) hHeld ?_ ?_
  rotate_left
  · rintro w' ⟨s0, s1, s2, s3, s4, s5, s6, s7⟩
    go_simp
    with_reducible rfl
  rotate_left
  · simp only [Act.put, List.setIfInBounds_toArray, List.set_cons_zero, List.set_cons_succ, i64_w, i32_w]
    rfl
  refine take_ (i := 5) (N := some 15) (v := ?_) (a' := ?_) #[true, true, true, true, true, true, false, true, true, false, false, false, true, true, false, false, false, true, true, false, false, false, true, true, false, false, false, true, true, false, false, false, true, true, false, false, false, false, false, false] rfl rfl (by kernel_rfl) (fun _ _ _ h => h) (Or.inl ⟨by rfl, ?_⟩) hHeld ?_ ?_
  rotate_left
  · rintro w' ⟨s0, s1, s2, s3, s4, s5, s6, s7⟩
    go_simp
    with_reducible rfl
  rotate_left
  · simp only [Act.put, List.setIfInBounds_toArray, List.set_cons_zero, List.set_cons_succ, i64_w, i32_w]
    rfl
  refine pure_ (i := 6) (N := some 16) (v := ?_) (a' := ?_) #[true, true, true, true, true, true, true, true, true, false, false, false, true, true, false, false, false, true, true, false, false, false, true, true, false, false, false, true, true, false, false, false, true, true, false, false, false, false, false, false] rfl rfl (by kernel_rfl) (fun _ _ _ h => h) (Or.inl ⟨by rfl, ?_⟩) ?_ ?_
  rotate_left
  · intro w'
    go_simp
    with_reducible rfl
  rotate_left
  · simp only [Act.put, List.setIfInBounds_toArray, List.set_cons_zero, List.set_cons_succ, i64_w, i32_w]
    rfl
  refine take_ (i := 9) (N := some 19) (v := ?_) (a' := ?_) #[true, true, true, true, true, true, true, true, true, true, false, false, true, true, false, false, false, true, true, false, false, false, true, true, false, false, false, true, true, false, false, false, true, true, false, false, false, false, false, false] rfl rfl (by kernel_rfl) (fun _ _ _ h => h) (Or.inl ⟨by rfl, ?_⟩) hHeld ?_ ?_
  rotate_left
  · rintro w' ⟨s0, s1, s2, s3, s4, s5, s6, s7⟩
    go_simp
    with_reducible rfl
  rotate_left
  · simp only [Act.put, List.setIfInBounds_toArray, List.set_cons_zero, List.set_cons_succ, i64_w, i32_w]
    rfl
  refine pure_ (i := 10) (N := some 20) (v := ?_) (a' := ?_) #[true, true, true, true, true, true, true, true, true, true, true, false, true, true, false, false, false, true, true, false, false, false, true, true, false, false, false, true, true, false, false, false, true, true, false, false, false, false, false, false] rfl rfl (by kernel_rfl) (fun _ _ _ h => h) (Or.inl ⟨by rfl, ?_⟩) ?_ ?_
  rotate_left
  · intro w'
    go_simp
    with_reducible rfl
  rotate_left
  · simp only [Act.put, List.setIfInBounds_toArray, List.set_cons_zero, List.set_cons_succ, i64_w, i32_w]
    rfl
  refine pure_ (i := 11) (N := some 21) (v := ?_) (a' := ?_) #[true, true, true, true, true, true, true, true, true, true, true, true, true, true, false, false, false, true, true, false, false, false, true, true, false, false, false, true, true, false, false, false, true, true, false, false, false, false, false, false] rfl rfl (by kernel_rfl) (fun _ _ _ h => h) (Or.inl ⟨by rfl, ?_⟩) ?_ ?_
  rotate_left
  · intro w'
    go_simp
    with_reducible rfl
  rotate_left
  · simp only [Act.put, List.setIfInBounds_toArray, List.set_cons_zero, List.set_cons_succ, i64_w, i32_w]
    rfl
  refine take_ (i := 14) (N := some 24) (v := ?_) (a' := ?_) #[true, true, true, true, true, true, true, true, true, true, true, true, true, true, true, false, false, true, true, false, false, false, true, true, false, false, false, true, true, false, false, false, true, true, false, false, false, false, false, false] rfl rfl (by kernel_rfl) (fun _ _ _ h => h) (Or.inl ⟨by rfl, ?_⟩) hHeld ?_ ?_
  rotate_left
  · rintro w' ⟨s0, s1, s2, s3, s4, s5, s6, s7⟩
    go_simp
    with_reducible rfl
  rotate_left
  · simp only [Act.put, List.setIfInBounds_toArray, List.set_cons_zero, List.set_cons_succ, i64_w, i32_w]
    rfl
  refine pure_ (i := 15) (N := some 25) (v := ?_) (a' := ?_) #[true, true, true, true, true, true, true, true, true, true, true, true, true, true, true, true, false, true, true, false, false, false, true, true, false, false, false, true, true, false, false, false, true, true, false, false, false, false, false, false] rfl rfl (by kernel_rfl) (fun _ _ _ h => h) (Or.inl ⟨by rfl, ?_⟩) ?_ ?_
  rotate_left
  · intro w'
    go_simp
    with_reducible rfl
  rotate_left
  · simp only [Act.put, List.setIfInBounds_toArray, List.set_cons_zero, List.set_cons_succ, i64_w, i32_w]
    rfl
  refine pure_ (i := 16) (N := some 26) (v := ?_) (a' := ?_) #[true, true, true, true, true, true, true, true, true, true, true, true, true, true, true, true, true, true, true, false, false, false, true, true, false, false, false, true, true, false, false, false, true, true, false, false, false, false, false, false] rfl rfl (by kernel_rfl) (fun _ _ _ h => h) (Or.inl ⟨by rfl, ?_⟩) ?_ ?_
  rotate_left
  · intro w'
    go_simp
    with_reducible rfl
  rotate_left
  · simp only [Act.put, List.setIfInBounds_toArray, List.set_cons_zero, List.set_cons_succ, i64_w, i32_w]
    rfl
  refine take_ (i := 19) (N := some 29) (v := ?_) (a' := ?_) #[true, true, true, true, true, true, true, true, true, true, true, true, true, true, true, true, true, true, true, true, false, false, true, true, false, false, false, true, true, false, false, false, true, true, false, false, false, false, false, false] rfl rfl (by kernel_rfl) (fun _ _ _ h => h) (Or.inl ⟨by rfl, ?_⟩) hHeld ?_ ?_
  rotate_left
  · rintro w' ⟨s0, s1, s2, s3, s4, s5, s6, s7⟩
    go_simp
    with_reducible rfl
  rotate_left
  · simp only [Act.put, List.setIfInBounds_toArray, List.set_cons_zero, List.set_cons_succ, i64_w, i32_w]
    rfl
  refine pure_ (i := 20) (N := some 30) (v := ?_) (a' := ?_) #[true, true, true, true, true, true, true, true, true, true, true, true, true, true, true, true, true, true, true, true, true, false, true, true, false, false, false, true, true, false, false, false, true, true, false, false, false, false, false, false] rfl rfl (by kernel_rfl) (fun _ _ _ h => h) (Or.inl ⟨by rfl, ?_⟩) ?_ ?_
  rotate_left
  · intro w'
    go_simp
    with_reducible rfl
  rotate_left
  · simp only [Act.put, List.setIfInBounds_toArray, List.set_cons_zero, List.set_cons_succ, i64_w, i32_w]
    rfl
  refine pure_ (i := 21) (N := some 31) (v := ?_) (a' := ?_) #[true, true, true, true, true, true, true, true, true, true, true, true, true, true, true, true, true, true, true, true, true, true, true, true, false, false, false, true, true, false, false, false, true, true, false, false, false, false, false, false] rfl rfl (by kernel_rfl) (fun _ _ _ h => h) (Or.inl ⟨by rfl, ?_⟩) ?_ ?_
  rotate_left
  · intro w'
    go_simp
    with_reducible rfl
  rotate_left
  · simp only [Act.put, List.setIfInBounds_toArray, List.set_cons_zero, List.set_cons_succ, i64_w, i32_w]
    rfl
  refine take_ (i := 24) (N := some 34) (v := ?_) (a' := ?_) #[true, true, true, true, true, true, true, true, true, true, true, true, true, true, true, true, true, true, true, true, true, true, true, true, true, false, false, true, true, false, false, false, true, true, false, false, false, false, false, false] rfl rfl (by kernel_rfl) (fun _ _ _ h => h) (Or.inl ⟨by rfl, ?_⟩) hHeld ?_ ?_
  rotate_left
  · rintro w' ⟨s0, s1, s2, s3, s4, s5, s6, s7⟩
    go_simp
    with_reducible rfl
  rotate_left
  · simp only [Act.put, List.setIfInBounds_toArray, List.set_cons_zero, List.set_cons_succ, i64_w, i32_w]
    rfl
  refine pure_ (i := 25) (N := some 35) (v := ?_) (a' := ?_) #[true, true, true, true, true, true, true, true, true, true, true, true, true, true, true, true, true, true, true, true, true, true, true, true, true, true, false, true, true, false, false, false, true, true, false, false, false, false, false, false] rfl rfl (by kernel_rfl) (fun _ _ _ h => h) (Or.inl ⟨by rfl, ?_⟩) ?_ ?_
  rotate_left
  · intro w'
    go_simp
    with_reducible rfl
  rotate_left
  · simp only [Act.put, List.setIfInBounds_toArray, List.set_cons_zero, List.set_cons_succ, i64_w, i32_w]
    rfl
  refine pure_ (i := 26) (N := some 36) (v := ?_) (a' := ?_) #[true, true, true, true, true, true, true, true, true, true, true, true, true, true, true, true, true, true, true, true, true, true, true, true, true, true, true, true, true, false, false, false, true, true, false, false, false, false, false, false] rfl rfl (by kernel_rfl) (fun _ _ _ h => h) (Or.inl ⟨by rfl, ?_⟩) ?_ ?_
  rotate_left
  · intro w'
    go_simp
    with_reducible rfl
  rotate_left
  · simp only [Act.put, List.setIfInBounds_toArray, List.set_cons_zero, List.set_cons_succ, i64_w, i32_w]
    rfl
  refine take_ (i := 29) (N := some 39) (v := ?_) (a' := ?_) #[true, true, true, true, true, true, true, true, true, true, true, true, true, true, true, true, true, true, true, true, true, true, true, true, true, true, true, true, true, true, false, false, true, true, false, false, false, false, false, false] rfl rfl (by kernel_rfl) (fun _ _ _ h => h) (Or.inl ⟨by rfl, ?_⟩) hHeld ?_ ?_
  rotate_left
  · rintro w' ⟨s0, s1, s2, s3, s4, s5, s6, s7⟩
    go_simp
    with_reducible rfl
  rotate_left
  · simp only [Act.put, List.setIfInBounds_toArray, List.set_cons_zero, List.set_cons_succ, i64_w, i32_w]
    rfl
  refine pure_ (i := 30) (N := some 40) (v := ?_) (a' := ?_) #[true, true, true, true, true, true, true, true, true, true, true, true, true, true, true, true, true, true, true, true, true, true, true, true, true, true, true, true, true, true, true, false, true, true, false, false, false, false, false, false] rfl rfl (by kernel_rfl) (fun _ _ _ h => h) (Or.inl ⟨by rfl, ?_⟩) ?_ ?_
  rotate_left
  · intro w'
    go_simp
    with_reducible rfl
  rotate_left
  · simp only [Act.put, List.setIfInBounds_toArray, List.set_cons_zero, List.set_cons_succ, i64_w, i32_w]
    rfl
  refine pure_ (i := 31) (N := some 41) (v := ?_) (a' := ?_) #[true, true, true, true, true, true, true, true, true, true, true, true, true, true, true, true, true, true, true, true, true, true, true, true, true, true, true, true, true, true, true, true, true, true, false, false, false, false, false, false] rfl rfl (by kernel_rfl) (fun _ _ _ h => h) (Or.inl ⟨by rfl, ?_⟩) ?_ ?_
  rotate_left
  · intro w'
    go_simp
    with_reducible rfl
  rotate_left
  · simp only [Act.put, List.setIfInBounds_toArray, List.set_cons_zero, List.set_cons_succ, i64_w, i32_w]
    rfl
  refine take_ (i := 34) (N := some 44) (v := ?_) (a' := ?_) #[true, true, true, true, true, true, true, true, true, true, true, true, true, true, true, true, true, true, true, true, true, true, true, true, true, true, true, true, true, true, true, true, true, true, true, false, false, false, false, false] rfl rfl (by kernel_rfl) (fun _ _ _ h => h) (Or.inl ⟨by rfl, ?_⟩) hHeld ?_ ?_
  rotate_left
  · rintro w' ⟨s0, s1, s2, s3, s4, s5, s6, s7⟩
    go_simp
    with_reducible rfl
  rotate_left
  · simp only [Act.put, List.setIfInBounds_toArray, List.set_cons_zero, List.set_cons_succ, i64_w, i32_w]
    rfl
  refine pure_ (i := 35) (N := some 45) (v := ?_) (a' := ?_) #[true, true, true, true, true, true, true, true, true, true, true, true, true, true, true, true, true, true, true, true, true, true, true, true, true, true, true, true, true, true, true, true, true, true, true, true, false, false, false, false] rfl rfl (by kernel_rfl) (fun _ _ _ h => h) (Or.inl ⟨by rfl, ?_⟩) ?_ ?_
  rotate_left
  · intro w'
    go_simp
    with_reducible rfl
  rotate_left
  · simp only [Act.put, List.setIfInBounds_toArray, List.set_cons_zero, List.set_cons_succ, i64_w, i32_w]
    rfl
  refine pure_ (i := 36) (N := some 46) (v := ?_) (a' := ?_) #[true, true, true, true, true, true, true, true, true, true, true, true, true, true, true, true, true, true, true, true, true, true, true, true, true, true, true, true, true, true, true, true, true, true, true, true, true, false, false, false] rfl rfl (by kernel_rfl) (fun _ _ _ h => h) (Or.inl ⟨by rfl, ?_⟩) ?_ ?_
  rotate_left
  · intro w'
    go_simp
    with_reducible rfl
  rotate_left
  · simp only [Act.put, List.setIfInBounds_toArray, List.set_cons_zero, List.set_cons_succ, i64_w, i32_w]
    rfl
  refine pure_ (i := 37) (N := some 47) (v := ?_) (a' := ?_) #[true, true, true, true, true, true, true, true, true, true, true, true, true, true, true, true, true, true, true, true, true, true, true, true, true, true, true, true, true, true, true, true, true, true, true, true, true, true, false, false] rfl rfl (by kernel_rfl) (fun _ _ _ h => h) (Or.inl ⟨by rfl, ?_⟩) ?_ ?_
  rotate_left
  · intro w'
    go_simp
    with_reducible rfl
  rotate_left
  · simp only [Act.put, List.setIfInBounds_toArray, List.set_cons_zero, List.set_cons_succ, i64_w, i32_w]
    rfl
  refine one_ (i := 38) (N := some 4) #[true, true, true, true, true, true, true, true, true, true, true, true, true, true, true, true, true, true, true, true, true, true, true, true, true, true, true, true, true, true, true, true, true, true, true, true, true, true, true, false] rfl rfl (by kernel_rfl) (by decide) (fun K hK => ?_)
  refine value_ (w1 := ?_) (v := ?_) (by rfl) rfl ?_ ?_
  rotate_left 2
  · go_simp
    constructor
    · rfl
    · rfl
  have HBn := Aside0.mk (blk_new w5 (.cells #[.int .u8 0, .int .i64 0, .int .i64 0, .int .i64 0, .int .i64 0, .int .u8 0, .int .u8 0, .int .u8 0, .int .u8 0, .int .u8 0, .int .u8 0, .int .u8 0, .int .u8 0, .int .u8 0, .int .u8 0, .int .u8 0, .int .u8 0, .int .u8 0, .int .u8 0, .int .u8 0, .int .u8 0, .int .u8 0, .int .u8 0, .int .u8 0, .int .u8 0] 25 (0, 0)))
  have HAn := Aside0.mk (blk_alloc HA5.out (.cells #[.int .u8 0, .int .i64 0, .int .i64 0, .int .i64 0, .int .i64 0, .int .u8 0, .int .u8 0, .int .u8 0, .int .u8 0, .int .u8 0, .int .u8 0, .int .u8 0, .int .u8 0, .int .u8 0, .int .u8 0, .int .u8 0, .int .u8 0, .int .u8 0, .int .u8 0, .int .u8 0, .int .u8 0, .int .u8 0, .int .u8 0, .int .u8 0, .int .u8 0] 25 (0, 0)))
  have Bn := Aside0.mk (below_alloc B5.out (.cells #[.int .u8 0, .int .i64 0, .int .i64 0, .int .i64 0, .int .i64 0, .int .u8 0, .int .u8 0, .int .u8 0, .int .u8 0, .int .u8 0, .int .u8 0, .int .u8 0, .int .u8 0, .int .u8 0, .int .u8 0, .int .u8 0, .int .u8 0, .int .u8 0, .int .u8 0, .int .u8 0, .int .u8 0, .int .u8 0, .int .u8 0, .int .u8 0, .int .u8 0] 25 (0, 0)))
  have Cn := Aside0.mk (Kd.C_below HR.out Bn.out)
  have NB : gA ≠ w5.heap.size := Nat.ne_of_lt (blk_lt HA5.out)
  have GB : w.heap.size ≤ w5.heap.size := B5.out.size
  generalize w5.alloc (.cells #[.int .u8 0, .int .i64 0, .int .i64 0, .int .i64 0, .int .i64 0, .int .u8 0, .int .u8 0, .int .u8 0, .int .u8 0, .int .u8 0, .int .u8 0, .int .u8 0, .int .u8 0, .int .u8 0, .int .u8 0, .int .u8 0, .int .u8 0, .int .u8 0, .int .u8 0, .int .u8 0, .int .u8 0, .int .u8 0, .int .u8 0, .int .u8 0, .int .u8 0] 25 (0, 0)) = w6 at HBn HAn Bn Cn ⊢
  generalize w5.heap.size = gB at HBn NB GB ⊢
  refine hK.out _ _ ⟨(C_getb0 Cn.out HL.out (by omega) HB0.out), (C_getb Cn.out HL.out 1 (by omega) HB1.out), (C_getb Cn.out HL.out 2 (by omega) HB2.out), (C_getb Cn.out HL.out 3 (by omega) HB3.out), (C_getb Cn.out HL.out 4 (by omega) HB4.out), (C_getb Cn.out HL.out 5 (by omega) HB5.out), (C_getb Cn.out HL.out 6 (by omega) HB6.out), (C_getb Cn.out HL.out 7 (by omega) HB7.out)⟩ (fun hHeld => ?_)
  clear hK K
  refine norm_ (a' := ?_) ?_ ?_
  rotate_left
  · show Act.put _ (some 4) _ = _
    simp only [Act.put, List.setIfInBounds_toArray, List.set_cons_zero, List.set_cons_succ, i64_w, i32_w]
    rfl
  refine last_ (i := 39) (N := none) #[true, true, true, true, true, true, true, true, true, true, true, true, true, true, true, true, true, true, true, true, true, true, true, true, true, true, true, true, true, true, true, true, true, true, true, true, true, true, true, true] rfl rfl (by kernel_rfl) (by decide) (fun K hK => ?_)
  refine skip_ (w1 := World.setCells w6 gB 0 [.int .u8 (b0), .int .i64 (wrap64 b1), .int .i64 (wrap64 (wrap64 (wrap64 b2 * 256) + wrap64 b3)), .int .i64 (wrap64 (wrap64 (wrap64 b4 * 256) + wrap64 b5)), .int .i64 (wrap64 (wrap64 (wrap64 b6 * 256) + wrap64 b7)), .int .u8 0, .int .u8 0, .int .u8 0, .int .u8 0, .int .u8 0, .int .u8 0, .int .u8 0, .int .u8 0, .int .u8 0, .int .u8 0, .int .u8 0, .int .u8 0, .int .u8 0, .int .u8 0, .int .u8 0, .int .u8 0, .int .u8 0, .int .u8 0, .int .u8 0, .int .u8 0]) (by rfl) rfl (by exact storeN_run (T := 25) (vs := [.int .u8 (b0), .int .i64 (wrap64 b1), .int .i64 (wrap64 (wrap64 (wrap64 b2 * 256) + wrap64 b3)), .int .i64 (wrap64 (wrap64 (wrap64 b4 * 256) + wrap64 b5)), .int .i64 (wrap64 (wrap64 (wrap64 b6 * 256) + wrap64 b7)), .int .u8 0, .int .u8 0, .int .u8 0, .int .u8 0, .int .u8 0, .int .u8 0, .int .u8 0, .int .u8 0, .int .u8 0, .int .u8 0, .int .u8 0, .int .u8 0, .int .u8 0, .int .u8 0, .int .u8 0, .int .u8 0, .int .u8 0, .int .u8 0, .int .u8 0, .int .u8 0]) rfl rfl rfl (storeVar_blk HBn.out 25 0 [.int .u8 (b0), .int .i64 (wrap64 b1), .int .i64 (wrap64 (wrap64 (wrap64 b2 * 256) + wrap64 b3)), .int .i64 (wrap64 (wrap64 (wrap64 b4 * 256) + wrap64 b5)), .int .i64 (wrap64 (wrap64 (wrap64 b6 * 256) + wrap64 b7)), .int .u8 0, .int .u8 0, .int .u8 0, .int .u8 0, .int .u8 0, .int .u8 0, .int .u8 0, .int .u8 0, .int .u8 0, .int .u8 0, .int .u8 0, .int .u8 0, .int .u8 0, .int .u8 0, .int .u8 0, .int .u8 0, .int .u8 0, .int .u8 0, .int .u8 0, .int .u8 0] (by kernel_rfl) rfl (by simp))) ?_
  refine hK.out _ _ ?_
  clear hK K
  refine done_ (by kernel_rfl) ?_
  have HB8 := Aside0.mk (blk_setCells [] [.int .u8 (b0), .int .i64 (wrap64 b1), .int .i64 (wrap64 (wrap64 (wrap64 b2 * 256) + wrap64 b3)), .int .i64 (wrap64 (wrap64 (wrap64 b4 * 256) + wrap64 b5)), .int .i64 (wrap64 (wrap64 (wrap64 b6 * 256) + wrap64 b7)), .int .u8 0, .int .u8 0, .int .u8 0, .int .u8 0, .int .u8 0, .int .u8 0, .int .u8 0, .int .u8 0, .int .u8 0, .int .u8 0, .int .u8 0, .int .u8 0, .int .u8 0, .int .u8 0, .int .u8 0, .int .u8 0, .int .u8 0, .int .u8 0, .int .u8 0, .int .u8 0] [.int .u8 0, .int .i64 0, .int .i64 0, .int .i64 0, .int .i64 0, .int .u8 0, .int .u8 0, .int .u8 0, .int .u8 0, .int .u8 0, .int .u8 0, .int .u8 0, .int .u8 0, .int .u8 0, .int .u8 0, .int .u8 0, .int .u8 0, .int .u8 0, .int .u8 0, .int .u8 0, .int .u8 0, .int .u8 0, .int .u8 0, .int .u8 0, .int .u8 0] [] w6 rfl HBn.out)
  have HA8 := Aside0.mk (far_setCells NB [.int .u8 (b0), .int .i64 (wrap64 b1), .int .i64 (wrap64 (wrap64 (wrap64 b2 * 256) + wrap64 b3)), .int .i64 (wrap64 (wrap64 (wrap64 b4 * 256) + wrap64 b5)), .int .i64 (wrap64 (wrap64 (wrap64 b6 * 256) + wrap64 b7)), .int .u8 0, .int .u8 0, .int .u8 0, .int .u8 0, .int .u8 0, .int .u8 0, .int .u8 0, .int .u8 0, .int .u8 0, .int .u8 0, .int .u8 0, .int .u8 0, .int .u8 0, .int .u8 0, .int .u8 0, .int .u8 0, .int .u8 0, .int .u8 0, .int .u8 0, .int .u8 0] 0 w6 HAn.out)
  have B8 := Aside0.mk (below_setCells GB [.int .u8 (b0), .int .i64 (wrap64 b1), .int .i64 (wrap64 (wrap64 (wrap64 b2 * 256) + wrap64 b3)), .int .i64 (wrap64 (wrap64 (wrap64 b4 * 256) + wrap64 b5)), .int .i64 (wrap64 (wrap64 (wrap64 b6 * 256) + wrap64 b7)), .int .u8 0, .int .u8 0, .int .u8 0, .int .u8 0, .int .u8 0, .int .u8 0, .int .u8 0, .int .u8 0, .int .u8 0, .int .u8 0, .int .u8 0, .int .u8 0, .int .u8 0, .int .u8 0, .int .u8 0, .int .u8 0, .int .u8 0, .int .u8 0, .int .u8 0, .int .u8 0] 0 w6 Bn.out)
  have HC8 := Aside0.mk (Kd.C_below HR.out B8.out)
  clear HBn HAn Bn Cn HA5 B5 HC5
  simp only [List.length_nil] at HB8
  generalize World.setCells w6 gB 0 [.int .u8 (b0), .int .i64 (wrap64 b1), .int .i64 (wrap64 (wrap64 (wrap64 b2 * 256) + wrap64 b3)), .int .i64 (wrap64 (wrap64 (wrap64 b4 * 256) + wrap64 b5)), .int .i64 (wrap64 (wrap64 (wrap64 b6 * 256) + wrap64 b7)), .int .u8 0, .int .u8 0, .int .u8 0, .int .u8 0, .int .u8 0, .int .u8 0, .int .u8 0, .int .u8 0, .int .u8 0, .int .u8 0, .int .u8 0, .int .u8 0, .int .u8 0, .int .u8 0, .int .u8 0, .int .u8 0, .int .u8 0, .int .u8 0, .int .u8 0, .int .u8 0] = w8 at HB8 HA8 B8 HC8 ⊢
  obtain ⟨V5, hV5⟩ : ∃ V5 : List Value, V5 = [.int .u8 (b0), .int .i64 (wrap64 b1), .int .i64 (wrap64 (wrap64 (wrap64 b2 * 256) + wrap64 b3)), .int .i64 (wrap64 (wrap64 (wrap64 b4 * 256) + wrap64 b5)), .int .i64 (wrap64 (wrap64 (wrap64 b6 * 256) + wrap64 b7))] := ⟨_, rfl⟩
  have HV5 := Aside0.mk hV5
  have HB9 := Aside0.mk (show w8.heap[gB]? = some (.cells (V5 ++ (List.replicate 20 (0 : Int)).map (Value.int .u8)).toArray 25 (0, 0)) by rw [hV5]; exact HB8.out)
  clear hV5 HB8 hHeld
  go_wp2_with fail
  go_loopg [5] 20 (fun n v5 w' => ∃ (i : Nat) (cs : List Int), v5 = .int .i64 (i : Int) ∧ Aside0 (i + n = 20) ∧ Aside0 (cs.length = 20) ∧ Aside0 (cs.take i = (l.drop 8).take i) ∧ Aside0 (w'.heap[gA]? = some (.cells #[.int .u8 0, .int .i64 0, .int .i64 0, .int .i64 0, .int .i64 0, .int .u8 0, .int .u8 0, .int .u8 0, .int .u8 0, .int .u8 0, .int .u8 0, .int .u8 0, .int .u8 0, .int .u8 0, .int .u8 0, .int .u8 0, .int .u8 0, .int .u8 0, .int .u8 0, .int .u8 0, .int .u8 0, .int .u8 0, .int .u8 0, .int .u8 0, .int .u8 0] 25 (0, 0))) ∧ Aside0 (w'.heap[gB]? = some (.cells (V5 ++ cs.map (Value.int .u8)).toArray 25 (0, 0))) ∧ Aside0 (Below w.heap.size w w'))
  case atStart => exact ⟨0, List.replicate 20 0, rfl, ⟨rfl⟩, ⟨rfl⟩, ⟨rfl⟩, HA8, HB9, B8⟩
  case round =>
    clear HA8 HB9 B8 HC8
    obtain ⟨i, cs, rfl, HK, HCL, HT, HA, HB, BB⟩ := hrel
    by_cases hk : i < 20
    · obtain ⟨go, rfl⟩ : ∃ j, gk = j + 1 := ⟨gk - 1, by have := HK.out; omega⟩
      have HC := Aside0.mk (Kd.C_below HR.out BB.out)
      obtain ⟨bt, hbt⟩ : ∃ b : Int, l.getD (8 + i) 0 = b := ⟨_, rfl⟩
      have HBT := Aside0.mk hbt
      have hcell := C_getb HC.out HL.out (8 + i) (by omega) hbt
      clear hbt
      have hV : V5.length = 5 := by rw [HV5.out]; rfl
      have hcl : 5 + i < ((V5 ++ cs.map (Value.int .u8)).toArray : Array Value).size := by have := HCL.out; simp; omega
      obtain ⟨old, hold⟩ : ∃ old, ((V5 ++ cs.map (Value.int .u8)).toArray : Array Value)[5 + i]? = some old := ⟨_, Array.getElem?_eq_getElem hcl⟩
      have hb := (blk_cell HB.out (5 + i)).trans hold
      have hf := blk_frozen HB.out (5 + i)
      have HB2 := Aside0.mk (blk_put (cs' := (V5 ++ (cs.set i bt).map (Value.int .u8)).toArray) HB.out (5 + i) (.int .u8 bt) (arr_set V5 .u8 cs i bt 5 hV))
      have HA2 := Aside0.mk (blk_far HA.out (p := ⟨gB, 5 + i, none⟩) NB (.int .u8 bt))
      have B2 := Aside0.mk (below_set (j := 5 + i) (v := .int .u8 bt) BB.out GB)
      have HT2 := Aside0.mk (take_set (ys := l.drop 8) HT.out (by have := HCL.out; omega) (by rw [List.length_drop, HL.out]; omega) (show (l.drop 8).getD i 0 = bt by rw [getD_drop]; exact HBT.out))
      clear hold hcl hV HA HB BB
      have h8 : (8 + (i : Int) < 28) = True := eq_true (by omega)
      have h0 : (0 ≤ 8 + (i : Int)) = True := eq_true (by omega)
      go_wp2_with fail
      go_roundg go
      case measure => have := HK.out; omega
      case rel => exact ⟨i + 1, cs.set i bt, by go_num, ⟨by have := HK.out; omega⟩, ⟨by rw [List.length_set]; exact HCL.out⟩, HT2, HA2, HB2, B2⟩
    · obtain rfl : i = 20 := by have := HK.out; omega
      have hcs : cs = [s0, s1, s2, s3, s4, s5, s6, s7, s8, s9, s10, s11, s12, s13, s14, s15, s16, s17, s18, s19] := by
        rw [← HS.out, ← List.take_of_length_le (l := cs) (i := 20) (by rw [HCL.out]; exact Nat.le_refl _), HT.out]
        exact List.take_of_length_le (by rw [List.length_drop, HL.out]; exact Nat.le_refl _)
      have HC8 := Aside0.mk (show wr.heap[gB]? = some (.cells #[.int .u8 (b0), .int .i64 (wrap64 b1), .int .i64 (wrap64 (wrap64 (wrap64 b2 * 256) + wrap64 b3)), .int .i64 (wrap64 (wrap64 (wrap64 b4 * 256) + wrap64 b5)), .int .i64 (wrap64 (wrap64 (wrap64 b6 * 256) + wrap64 b7)), .int .u8 s0, .int .u8 s1, .int .u8 s2, .int .u8 s3, .int .u8 s4, .int .u8 s5, .int .u8 s6, .int .u8 s7, .int .u8 s8, .int .u8 s9, .int .u8 s10, .int .u8 s11, .int .u8 s12, .int .u8 s13, .int .u8 s14, .int .u8 s15, .int .u8 s16, .int .u8 s17, .int .u8 s18, .int .u8 s19] 25 (0, 0)) by rw [HB.out, hcs, HV5.out]; rfl)
      clear hcs HT HCL HB
      have d0 : wr.cell? ⟨gB, 0, none⟩ = some (.int .u8 (b0)) := (blk_cell HC8.out 0).trans rfl; have d1 : wr.cell? ⟨gB, 1, none⟩ = some (.int .i64 (wrap64 b1)) := (blk_cell HC8.out 1).trans rfl; have d2 : wr.cell? ⟨gB, 2, none⟩ = some (.int .i64 (wrap64 (wrap64 (wrap64 b2 * 256) + wrap64 b3))) := (blk_cell HC8.out 2).trans rfl; have d3 : wr.cell? ⟨gB, 3, none⟩ = some (.int .i64 (wrap64 (wrap64 (wrap64 b4 * 256) + wrap64 b5))) := (blk_cell HC8.out 3).trans rfl; have d4 : wr.cell? ⟨gB, 4, none⟩ = some (.int .i64 (wrap64 (wrap64 (wrap64 b6 * 256) + wrap64 b7))) := (blk_cell HC8.out 4).trans rfl; have d5 : wr.cell? ⟨gB, 5, none⟩ = some (.int .u8 s0) := (blk_cell HC8.out 5).trans rfl; have d6 : wr.cell? ⟨gB, 6, none⟩ = some (.int .u8 s1) := (blk_cell HC8.out 6).trans rfl; have d7 : wr.cell? ⟨gB, 7, none⟩ = some (.int .u8 s2) := (blk_cell HC8.out 7).trans rfl; have d8 : wr.cell? ⟨gB, 8, none⟩ = some (.int .u8 s3) := (blk_cell HC8.out 8).trans rfl; have d9 : wr.cell? ⟨gB, 9, none⟩ = some (.int .u8 s4) := (blk_cell HC8.out 9).trans rfl; have d10 : wr.cell? ⟨gB, 10, none⟩ = some (.int .u8 s5) := (blk_cell HC8.out 10).trans rfl; have d11 : wr.cell? ⟨gB, 11, none⟩ = some (.int .u8 s6) := (blk_cell HC8.out 11).trans rfl; have d12 : wr.cell? ⟨gB, 12, none⟩ = some (.int .u8 s7) := (blk_cell HC8.out 12).trans rfl; have d13 : wr.cell? ⟨gB, 13, none⟩ = some (.int .u8 s8) := (blk_cell HC8.out 13).trans rfl; have d14 : wr.cell? ⟨gB, 14, none⟩ = some (.int .u8 s9) := (blk_cell HC8.out 14).trans rfl; have d15 : wr.cell? ⟨gB, 15, none⟩ = some (.int .u8 s10) := (blk_cell HC8.out 15).trans rfl; have d16 : wr.cell? ⟨gB, 16, none⟩ = some (.int .u8 s11) := (blk_cell HC8.out 16).trans rfl; have d17 : wr.cell? ⟨gB, 17, none⟩ = some (.int .u8 s12) := (blk_cell HC8.out 17).trans rfl; have d18 : wr.cell? ⟨gB, 18, none⟩ = some (.int .u8 s13) := (blk_cell HC8.out 18).trans rfl; have d19 : wr.cell? ⟨gB, 19, none⟩ = some (.int .u8 s14) := (blk_cell HC8.out 19).trans rfl; have d20 : wr.cell? ⟨gB, 20, none⟩ = some (.int .u8 s15) := (blk_cell HC8.out 20).trans rfl; have d21 : wr.cell? ⟨gB, 21, none⟩ = some (.int .u8 s16) := (blk_cell HC8.out 21).trans rfl; have d22 : wr.cell? ⟨gB, 22, none⟩ = some (.int .u8 s17) := (blk_cell HC8.out 22).trans rfl; have d23 : wr.cell? ⟨gB, 23, none⟩ = some (.int .u8 s18) := (blk_cell HC8.out 23).trans rfl; have d24 : wr.cell? ⟨gB, 24, none⟩ = some (.int .u8 s19) := (blk_cell HC8.out 24).trans rfl
      simp only [show ((20 : Nat) : Int) = 20 from rfl]
      go_wp2_with (first | ((with_reducible refine gate_dst (N := 60) rfl ?_); refine loadN_event (T := 25) rfl rfl rfl (run_loadVar_25_0 d0 d1 d2 d3 d4 d5 d6 d7 d8 d9 d10 d11 d12 d13 d14 d15 d16 d17 d18 d19 d20 d21 d22 d23 d24) ?_))
      refine (HCK.out wr).mono ?_
      rintro e w9 ⟨rfl, hb9⟩
      have HC9 := Aside0.mk (blk_below HC8.out hb9)
      have HA9 := Aside0.mk (blk_below HA.out hb9)
      have B9 := Aside0.mk (below_step BB.out hb9)
      clear hb9 HC8 HA BB d0 d1 d2 d3 d4 d5 d6 d7 d8 d9 d10 d11 d12 d13 d14 d15 d16 d17 d18 d19 d20 d21 d22 d23 d24
      by_cases h0 : r = 0
      · subst h0
        have e0 : w9.cell? ⟨gB, 0, none⟩ = some (.int .u8 (b0)) := (blk_cell HC9.out 0).trans rfl; have e1 : w9.cell? ⟨gB, 1, none⟩ = some (.int .i64 (wrap64 b1)) := (blk_cell HC9.out 1).trans rfl; have e2 : w9.cell? ⟨gB, 2, none⟩ = some (.int .i64 (wrap64 (wrap64 (wrap64 b2 * 256) + wrap64 b3))) := (blk_cell HC9.out 2).trans rfl; have e3 : w9.cell? ⟨gB, 3, none⟩ = some (.int .i64 (wrap64 (wrap64 (wrap64 b4 * 256) + wrap64 b5))) := (blk_cell HC9.out 3).trans rfl; have e4 : w9.cell? ⟨gB, 4, none⟩ = some (.int .i64 (wrap64 (wrap64 (wrap64 b6 * 256) + wrap64 b7))) := (blk_cell HC9.out 4).trans rfl; have e5 : w9.cell? ⟨gB, 5, none⟩ = some (.int .u8 s0) := (blk_cell HC9.out 5).trans rfl; have e6 : w9.cell? ⟨gB, 6, none⟩ = some (.int .u8 s1) := (blk_cell HC9.out 6).trans rfl; have e7 : w9.cell? ⟨gB, 7, none⟩ = some (.int .u8 s2) := (blk_cell HC9.out 7).trans rfl; have e8 : w9.cell? ⟨gB, 8, none⟩ = some (.int .u8 s3) := (blk_cell HC9.out 8).trans rfl; have e9 : w9.cell? ⟨gB, 9, none⟩ = some (.int .u8 s4) := (blk_cell HC9.out 9).trans rfl; have e10 : w9.cell? ⟨gB, 10, none⟩ = some (.int .u8 s5) := (blk_cell HC9.out 10).trans rfl; have e11 : w9.cell? ⟨gB, 11, none⟩ = some (.int .u8 s6) := (blk_cell HC9.out 11).trans rfl; have e12 : w9.cell? ⟨gB, 12, none⟩ = some (.int .u8 s7) := (blk_cell HC9.out 12).trans rfl; have e13 : w9.cell? ⟨gB, 13, none⟩ = some (.int .u8 s8) := (blk_cell HC9.out 13).trans rfl; have e14 : w9.cell? ⟨gB, 14, none⟩ = some (.int .u8 s9) := (blk_cell HC9.out 14).trans rfl; have e15 : w9.cell? ⟨gB, 15, none⟩ = some (.int .u8 s10) := (blk_cell HC9.out 15).trans rfl; have e16 : w9.cell? ⟨gB, 16, none⟩ = some (.int .u8 s11) := (blk_cell HC9.out 16).trans rfl; have e17 : w9.cell? ⟨gB, 17, none⟩ = some (.int .u8 s12) := (blk_cell HC9.out 17).trans rfl; have e18 : w9.cell? ⟨gB, 18, none⟩ = some (.int .u8 s13) := (blk_cell HC9.out 18).trans rfl; have e19 : w9.cell? ⟨gB, 19, none⟩ = some (.int .u8 s14) := (blk_cell HC9.out 19).trans rfl; have e20 : w9.cell? ⟨gB, 20, none⟩ = some (.int .u8 s15) := (blk_cell HC9.out 20).trans rfl; have e21 : w9.cell? ⟨gB, 21, none⟩ = some (.int .u8 s16) := (blk_cell HC9.out 21).trans rfl; have e22 : w9.cell? ⟨gB, 22, none⟩ = some (.int .u8 s17) := (blk_cell HC9.out 22).trans rfl; have e23 : w9.cell? ⟨gB, 23, none⟩ = some (.int .u8 s18) := (blk_cell HC9.out 23).trans rfl; have e24 : w9.cell? ⟨gB, 24, none⟩ = some (.int .u8 s19) := (blk_cell HC9.out 24).trans rfl
        go_wp2_with (first | ((with_reducible refine gate_dst (N := 64) rfl ?_); refine loadN_event (T := 25) rfl rfl rfl (run_loadVar_25_0 e0 e1 e2 e3 e4 e5 e6 e7 e8 e9 e10 e11 e12 e13 e14 e15 e16 e17 e18 e19 e20 e21 e22 e23 e24) ?_) | ((with_reducible refine gate_store (t := 25) (p := _) rfl ?_); refine storeN_event (T := 25) rfl rfl rfl rfl rfl (storeVar_blk HA9.out 25 0 [.int .u8 (b0), .int .i64 (wrap64 b1), .int .i64 (wrap64 (wrap64 (wrap64 b2 * 256) + wrap64 b3)), .int .i64 (wrap64 (wrap64 (wrap64 b4 * 256) + wrap64 b5)), .int .i64 (wrap64 (wrap64 (wrap64 b6 * 256) + wrap64 b7)), .int .u8 s0, .int .u8 s1, .int .u8 s2, .int .u8 s3, .int .u8 s4, .int .u8 s5, .int .u8 s6, .int .u8 s7, .int .u8 s8, .int .u8 s9, .int .u8 s10, .int .u8 s11, .int .u8 s12, .int .u8 s13, .int .u8 s14, .int .u8 s15, .int .u8 s16, .int .u8 s17, .int .u8 s18, .int .u8 s19] (by kernel_rfl) rfl (by simp)) ?_; have HA10 := Aside0.mk (blk_setCells [] [.int .u8 (b0), .int .i64 (wrap64 b1), .int .i64 (wrap64 (wrap64 (wrap64 b2 * 256) + wrap64 b3)), .int .i64 (wrap64 (wrap64 (wrap64 b4 * 256) + wrap64 b5)), .int .i64 (wrap64 (wrap64 (wrap64 b6 * 256) + wrap64 b7)), .int .u8 s0, .int .u8 s1, .int .u8 s2, .int .u8 s3, .int .u8 s4, .int .u8 s5, .int .u8 s6, .int .u8 s7, .int .u8 s8, .int .u8 s9, .int .u8 s10, .int .u8 s11, .int .u8 s12, .int .u8 s13, .int .u8 s14, .int .u8 s15, .int .u8 s16, .int .u8 s17, .int .u8 s18, .int .u8 s19] [.int .u8 0, .int .i64 0, .int .i64 0, .int .i64 0, .int .i64 0, .int .u8 0, .int .u8 0, .int .u8 0, .int .u8 0, .int .u8 0, .int .u8 0, .int .u8 0, .int .u8 0, .int .u8 0, .int .u8 0, .int .u8 0, .int .u8 0, .int .u8 0, .int .u8 0, .int .u8 0, .int .u8 0, .int .u8 0, .int .u8 0, .int .u8 0, .int .u8 0] [] w9 rfl HA9.out); have B10 := Aside0.mk (below_setCells GA [.int .u8 (b0), .int .i64 (wrap64 b1), .int .i64 (wrap64 (wrap64 (wrap64 b2 * 256) + wrap64 b3)), .int .i64 (wrap64 (wrap64 (wrap64 b4 * 256) + wrap64 b5)), .int .i64 (wrap64 (wrap64 (wrap64 b6 * 256) + wrap64 b7)), .int .u8 s0, .int .u8 s1, .int .u8 s2, .int .u8 s3, .int .u8 s4, .int .u8 s5, .int .u8 s6, .int .u8 s7, .int .u8 s8, .int .u8 s9, .int .u8 s10, .int .u8 s11, .int .u8 s12, .int .u8 s13, .int .u8 s14, .int .u8 s15, .int .u8 s16, .int .u8 s17, .int .u8 s18, .int .u8 s19] 0 w9 B9.out)))
        exact bodyPost_ret (results_ct rfl _ _ gA 25 #[.int .u8 (b0), .int .i64 (wrap64 b1), .int .i64 (wrap64 (wrap64 (wrap64 b2 * 256) + wrap64 b3)), .int .i64 (wrap64 (wrap64 (wrap64 b4 * 256) + wrap64 b5)), .int .i64 (wrap64 (wrap64 (wrap64 b6 * 256) + wrap64 b7)), .int .u8 s0, .int .u8 s1, .int .u8 s2, .int .u8 s3, .int .u8 s4, .int .u8 s5, .int .u8 s6, .int .u8 s7, .int .u8 s8, .int .u8 s9, .int .u8 s10, .int .u8 s11, .int .u8 s12, .int .u8 s13, .int .u8 s14, .int .u8 s15, .int .u8 s16, .int .u8 s17, .int .u8 s18, .int .u8 s19] (0, 0) _ rfl HA10.out Tryd.underlying25 rfl (by kernel_rfl)) rfl ⟨rfl, B10.out⟩
      · have hz : (r == 0) = false := by simpa using h0
        have hz2 : (r != 0) = true := by simpa using h0
        go_wp2_with (first | ((with_reducible refine gate_store (t := 25) (p := _) rfl ?_); refine storeN_event (T := 25) rfl rfl rfl rfl rfl (storeVar_blk HA9.out 25 0 [.int .u8 0, .int .i64 0, .int .i64 0, .int .i64 0, .int .i64 0, .int .u8 0, .int .u8 0, .int .u8 0, .int .u8 0, .int .u8 0, .int .u8 0, .int .u8 0, .int .u8 0, .int .u8 0, .int .u8 0, .int .u8 0, .int .u8 0, .int .u8 0, .int .u8 0, .int .u8 0, .int .u8 0, .int .u8 0, .int .u8 0, .int .u8 0, .int .u8 0] (by kernel_rfl) rfl (by simp)) ?_; have HA10 := Aside0.mk (blk_setCells [] [.int .u8 0, .int .i64 0, .int .i64 0, .int .i64 0, .int .i64 0, .int .u8 0, .int .u8 0, .int .u8 0, .int .u8 0, .int .u8 0, .int .u8 0, .int .u8 0, .int .u8 0, .int .u8 0, .int .u8 0, .int .u8 0, .int .u8 0, .int .u8 0, .int .u8 0, .int .u8 0, .int .u8 0, .int .u8 0, .int .u8 0, .int .u8 0, .int .u8 0] [.int .u8 0, .int .i64 0, .int .i64 0, .int .i64 0, .int .i64 0, .int .u8 0, .int .u8 0, .int .u8 0, .int .u8 0, .int .u8 0, .int .u8 0, .int .u8 0, .int .u8 0, .int .u8 0, .int .u8 0, .int .u8 0, .int .u8 0, .int .u8 0, .int .u8 0, .int .u8 0, .int .u8 0, .int .u8 0, .int .u8 0, .int .u8 0, .int .u8 0] [] w9 rfl HA9.out); have B10 := Aside0.mk (below_setCells GA [.int .u8 0, .int .i64 0, .int .i64 0, .int .i64 0, .int .i64 0, .int .u8 0, .int .u8 0, .int .u8 0, .int .u8 0, .int .u8 0, .int .u8 0, .int .u8 0, .int .u8 0, .int .u8 0, .int .u8 0, .int .u8 0, .int .u8 0, .int .u8 0, .int .u8 0, .int .u8 0, .int .u8 0, .int .u8 0, .int .u8 0, .int .u8 0, .int .u8 0] 0 w9 B9.out)))
        exact bodyPost_ret (results_ct rfl _ _ gA 25 #[.int .u8 0, .int .i64 0, .int .i64 0, .int .i64 0, .int .i64 0, .int .u8 0, .int .u8 0, .int .u8 0, .int .u8 0, .int .u8 0, .int .u8 0, .int .u8 0, .int .u8 0, .int .u8 0, .int .u8 0, .int .u8 0, .int .u8 0, .int .u8 0, .int .u8 0, .int .u8 0, .int .u8 0, .int .u8 0, .int .u8 0, .int .u8 0, .int .u8 0] (0, 0) _ rfl HA10.out Tryd.underlying25 rfl (by kernel_rfl)) rfl ⟨rfl, B10.out⟩
set_option maxRecDepth 100000 in
theorem RParse_short (A : Option Addr) (c : Nat) (l : List Int) (w : World) (hl : l.length ≠ 28) :
    Calls Tryd.prog 24 #[.slice A l.length c] w fun e w' => e = .returned (.tuple #[.agg #[.int .u8 0, .int .i64 0, .int .i64 0, .int .i64 0, .int .i64 0, .int .u8 0, .int .u8 0, .int .u8 0, .int .u8 0, .int .u8 0, .int .u8 0, .int .u8 0, .int .u8 0, .int .u8 0, .int .u8 0, .int .u8 0, .int .u8 0, .int .u8 0, .int .u8 0, .int .u8 0, .int .u8 0, .int .u8 0, .int .u8 0, .int .u8 0, .int .u8 0], .int .i64 12]) ∧ Below w.heap.size w w' := by
  have hne : (((l.length : Nat) : Int) != 28) = true := by simp; omega
  have hne2 : decide (((l.length : Nat) : Int) = 28) = false := by simp; omega
  have hne3 : (((l.length : Nat) : Int) == 28) = false := by simp; omega
  clear hl
  go_enter Tryd.func24, Tryd.ntmps24
  go_wp2_with (first | ((with_reducible refine gate_dst (N := 2) rfl ?_); refine box_event ?hg (N := 2) ?hd (cs := #[.int .u8 0, .int .i64 0, .int .i64 0, .int .i64 0, .int .i64 0, .int .u8 0, .int .u8 0, .int .u8 0, .int .u8 0, .int .u8 0, .int .u8 0, .int .u8 0, .int .u8 0, .int .u8 0, .int .u8 0, .int .u8 0, .int .u8 0, .int .u8 0, .int .u8 0, .int .u8 0, .int .u8 0, .int .u8 0, .int .u8 0, .int .u8 0, .int .u8 0]) (t := 25) ?hr ?_; (case hd => rfl); (case hg => rfl); (case hr => first | (go_simp; done) | (go_simp; rfl)); intro gA hgA wA hbgA hBgA; have HA := Aside0.mk hbgA; have BA := Aside0.mk hBgA; have GA : w.heap.size ≤ gA := Nat.le_of_eq hgA.symm; clear hbgA hBgA hgA) | ((with_reducible refine gate_store (t := 25) (p := _) rfl ?_); refine storeN_event (T := 25) rfl rfl rfl rfl rfl (storeVar_blk HA.out 25 0 [.int .u8 0, .int .i64 0, .int .i64 0, .int .i64 0, .int .i64 0, .int .u8 0, .int .u8 0, .int .u8 0, .int .u8 0, .int .u8 0, .int .u8 0, .int .u8 0, .int .u8 0, .int .u8 0, .int .u8 0, .int .u8 0, .int .u8 0, .int .u8 0, .int .u8 0, .int .u8 0, .int .u8 0, .int .u8 0, .int .u8 0, .int .u8 0, .int .u8 0] (by kernel_rfl) rfl (by simp)) ?_; have HA10 := Aside0.mk (blk_setCells [] [.int .u8 0, .int .i64 0, .int .i64 0, .int .i64 0, .int .i64 0, .int .u8 0, .int .u8 0, .int .u8 0, .int .u8 0, .int .u8 0, .int .u8 0, .int .u8 0, .int .u8 0, .int .u8 0, .int .u8 0, .int .u8 0, .int .u8 0, .int .u8 0, .int .u8 0, .int .u8 0, .int .u8 0, .int .u8 0, .int .u8 0, .int .u8 0, .int .u8 0] [.int .u8 0, .int .i64 0, .int .i64 0, .int .i64 0, .int .i64 0, .int .u8 0, .int .u8 0, .int .u8 0, .int .u8 0, .int .u8 0, .int .u8 0, .int .u8 0, .int .u8 0, .int .u8 0, .int .u8 0, .int .u8 0, .int .u8 0, .int .u8 0, .int .u8 0, .int .u8 0, .int .u8 0, .int .u8 0, .int .u8 0, .int .u8 0, .int .u8 0] [] wA rfl HA.out); have B10 := Aside0.mk (below_setCells GA [.int .u8 0, .int .i64 0, .int .i64 0, .int .i64 0, .int .i64 0, .int .u8 0, .int .u8 0, .int .u8 0, .int .u8 0, .int .u8 0, .int .u8 0, .int .u8 0, .int .u8 0, .int .u8 0, .int .u8 0, .int .u8 0, .int .u8 0, .int .u8 0, .int .u8 0, .int .u8 0, .int .u8 0, .int .u8 0, .int .u8 0, .int .u8 0, .int .u8 0] 0 wA BA.out)))
  exact bodyPost_ret (results_ct rfl _ _ gA 25 #[.int .u8 0, .int .i64 0, .int .i64 0, .int .i64 0, .int .i64 0, .int .u8 0, .int .u8 0, .int .u8 0, .int .u8 0, .int .u8 0, .int .u8 0, .int .u8 0, .int .u8 0, .int .u8 0, .int .u8 0, .int .u8 0, .int .u8 0, .int .u8 0, .int .u8 0, .int .u8 0, .int .u8 0, .int .u8 0, .int .u8 0, .int .u8 0, .int .u8 0] (0, 0) _ rfl HA10.out Tryd.underlying25 rfl (by kernel_rfl)) rfl ⟨rfl, B10.out⟩
end Go.Proofs.YtbldecdipicddaaDoor.Hand
