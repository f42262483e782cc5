/- The walks' own words: blocks, stores, loads, rows. Written by wip/c2/mkkit3.py. -/
import Derived.Test.YtgapkifgddjijaaQDx0
set_option linter.unusedSimpArgs false
set_option linter.unusedVariables false
namespace Go.Proofs.Ytgapkifgddjijaa.Hx
open Go Go.RowKit Go.Proofs.YtgapkifgddjijaaW.PrintWords Go.Proofs.YtgapkifgddjijaaW.PrintLast Go.Proofs.YtgapkifgddjijaaW.PrintMore
theorem storeVar_list {P : Program} (w : World) (ty g o : Nat) (vs : List Value) (hi : (P.info? ty).map (·.size) = some vs.length) (h1 : ∀ v ∈ vs, v.oneCell' = true)
    (hc : ∀ j, j < vs.length → (w.cell? ⟨g, o + 0 + j, none⟩).isSome = true) (hf : ∀ j, j < vs.length → w.frozen? ⟨g, o + 0 + j, none⟩ = false) :
    (storeVar ty ⟨g, o, none⟩ (.agg vs.toArray)).run P w = .ok () (w.setCells g o vs) := by
  have := run_storeCells_cells (P := P) g o vs 0 w hc hf h1
  cases hq : P.info? ty with
  | none => simp [hq] at hi
  | some i =>
    have hs : vs.length = i.size := by simp [hq] at hi; omega
    simp [storeVar, sizeOf, typeInfo, hq, Value.cells, hs, this]
theorem far_setCells {ga g t : Nat} {cs : Array Value} (hne : ga ≠ g) : ∀ (vs : List Value) (o : Nat) (w : World), w.heap[ga]? = some (.cells cs t (0, 0)) → (w.setCells g o vs).heap[ga]? = some (.cells cs t (0, 0))
  | [], _, _, h => h
  | v :: r, o, _, h => far_setCells hne r (o + 1) _ (blk_far h (p := ⟨g, o, none⟩) hne v)
theorem below_setCells {w0 : World} {g : Nat} (hg : w0.heap.size ≤ g) : ∀ (vs : List Value) (o : Nat) (w : World), Below w0.heap.size w0 w → Below w0.heap.size w0 (w.setCells g o vs)
  | [], _, _, h => h
  | v :: r, o, _, h => below_setCells hg r (o + 1) _ (below_set (j := o) (v := v) h hg)
theorem blk_setCells {g t : Nat} (post : List Value) : ∀ (vs old pre : List Value) (w : World), old.length = vs.length → w.heap[g]? = some (.cells (pre ++ old ++ post).toArray t (0, 0)) → (w.setCells g pre.length vs).heap[g]? = some (.cells (pre ++ vs ++ post).toArray t (0, 0))
  | [], old, pre, w, hl, h => by
    obtain rfl : old = [] := List.length_eq_zero_iff.1 hl
    exact h
  | v :: r, old, pre, w, hl, h => by
    obtain ⟨x, old', rfl⟩ : ∃ x o', old = x :: o' := by
      cases old with
      | nil => cases hl
      | cons x o' => exact ⟨x, o', rfl⟩
    have h1 := blk_put (cs' := ((pre ++ [v]) ++ old' ++ post).toArray) h pre.length v (by simp)
    have h2 := blk_setCells post r old' (pre ++ [v]) (w.setCell ⟨g, pre.length, none⟩ v) (by simpa using hl) h1
    rw [List.length_append, List.length_singleton] at h2
    have e : pre ++ [v] ++ r ++ post = pre ++ (v :: r) ++ post := by simp
    rw [e] at h2
    exact h2
theorem storeVar_blk {P : Program} {w : World} {g t : Nat} {cs : Array Value} (h : w.heap[g]? = some (.cells cs t (0, 0))) (ty o : Nat) (vs : List Value) (hi : (P.info? ty).map (·.size) = some vs.length) (h1 : vs.all (·.oneCell') = true) (hl : o + vs.length ≤ cs.size) :
    (storeVar ty ⟨g, o, none⟩ (.agg vs.toArray)).run P w = .ok () (w.setCells g o vs) := by
  refine storeVar_list w ty g o vs hi (fun v hv => List.all_eq_true.1 h1 v hv) (fun j hj => ?_) (fun j hj => blk_frozen h _)
  rw [blk_cell h, Array.getElem?_eq_getElem (by omega)]
  rfl
/-- A store of a whole struct or array, as one step. -/
theorem storeN_event {P : Program} {ops : Array Oper} {o : Oper} {rest : List Oper} {a : Act} {Q : Exit → Act → World → Prop} {W w1 : World} {T : TypeId} {p : Tmp} {v : Operand} (hgd : o.guard = none) (ho : o.op = .store T (.tmp p) v) (hN : o.dst = none) {g off : Nat} {vs : Array Value}
    (hx : a.eval (.tmp p) = .pointer (some ⟨g, off, none⟩)) (hy : a.eval v = .agg vs) (hs : (storeVar T ⟨g, off, none⟩ (.agg vs)).run P W = .ok () w1) (h : wpList P ops Q rest a w1) : wpList P ops Q (o :: rest) a W := by
  refine wpList_plain hgd fun K hK => ?_
  unfold Oper.wp execOp
  simp only [ho, hx, hy, Instr.storeAt, Instr.sureAddr, Sem.run_bind, Sem.run_pure, Result.andThen_ok, hs]
  show K (a.put o.dst undef) w1
  rw [hN]
  exact hK _ _ h
theorem loadVar_list {P : Program} (w : World) (ty g o : Nat) (vs : List Value) (hi : (P.info? ty).map (·.size) = some vs.length) (ha : (isAgg ty).run P w = .ok true w)
    (hc : ∀ (j : Nat) (v : Value), vs[j]? = some v → w.cell? ⟨g, o + j, none⟩ = some v) : (loadVar ty ⟨g, o, none⟩).run P w = .ok (.agg vs.toArray) w := by
  have hadd : ∀ j : Nat, (⟨g, o, none⟩ : Addr).add j = ⟨g, o + j, none⟩ := fun j => by simp [Addr.add]
  have hl := run_loadCells_list (P := P) w ⟨g, o, none⟩ vs (fun j v hj => by rw [hadd]; exact hc j v hj)
  cases hq : P.info? ty with
  | none => simp [hq] at hi
  | some i =>
    have hs : vs.length = i.size := by simp [hq] at hi; omega
    unfold loadVar
    rw [hs] at hl
    simp only [Sem.run_bind, ha, Result.andThen_ok, if_true, sizeOf, typeInfo]
    simp [hq, hl]
theorem loadN_run {P : Program} {o : Oper} {a : Act} {W : World} {T : TypeId} {x : Operand} {v : Value} {g off : Nat} (ho : o.op = .load T x) (hx : a.eval x = .pointer (some ⟨g, off, none⟩)) (hs : (loadVar T ⟨g, off, none⟩).run P W = .ok v W) : (execOp a.eval o).run P W = .ok (.value v) W := by
  unfold execOp
  simp only [ho, hx, Instr.loadAt, Instr.sureAddr, Sem.run_bind, Sem.run_pure, Result.andThen_ok, hs]
/-- A load of a whole struct or array, as one step. -/
theorem loadN_event {P : Program} {ops : Array Oper} {o : Oper} {rest : List Oper} {a : Act} {Q : Exit → Act → World → Prop} {W : World} {T : TypeId} {x : Operand} {v : Value} {g off : Nat} (hgd : o.guard = none) (ho : o.op = .load T x)
    (hx : a.eval x = .pointer (some ⟨g, off, none⟩)) (hs : (loadVar T ⟨g, off, none⟩).run P W = .ok v W) (h : wpList P ops Q rest (a.put o.dst v) W) : wpList P ops Q (o :: rest) a W := by
  refine wpList_plain hgd fun K hK => ?_
  unfold Oper.wp
  rw [loadN_run ho hx hs]
  exact hK _ _ h
theorem info5p : (Try.prog.info? 5).map (fun i => (i.zero, i.size, i.bytes)) = some (some (.int .u8 0), 1, 1) := by kernel_rfl
theorem storeN_run {P : Program} {o : Oper} {a : Act} {W w1 : World} {T : TypeId} {p : Tmp} {v : Operand} (ho : o.op = .store T (.tmp p) v) {g off : Nat} {vs : List Value}
    (hx : a.eval (.tmp p) = .pointer (some ⟨g, off, none⟩)) (hy : a.eval v = .agg vs.toArray) (hs : (storeVar T ⟨g, off, none⟩ (.agg vs.toArray)).run P W = .ok () w1) : (execOp a.eval o).run P W = .ok .skip w1 := by
  unfold execOp
  simp only [ho, hx, hy, Instr.storeAt, Instr.sureAddr, Sem.run_bind, Sem.run_pure, Result.andThen_ok, hs]
theorem R_setCells {e g t b : Nat} {cs : Array Value} {v : Value} {xs : List Int} {k : IntKind} {ok : Nat → Prop} (hne : e ≠ t) : ∀ (vs : List Value) (o : Nat) (W : World), Kd.R (Kd.int k) e W b ok v xs → W.heap[g]? = some (.cells cs t (0, 0)) → Kd.R (Kd.int k) e (W.setCells g o vs) b ok v xs := by
  intro vs
  induction vs generalizing cs with
  | nil => exact fun _ _ h _ => h
  | cons x vs ih =>
    intro o W h hb
    exact ih (o + 1) _ (Kd.R_mono (Kd.R_far (p := ⟨g, o, none⟩) (Kd.R_types h hb (fun q hq => by rcases List.mem_cons.1 hq with rfl | h'; exact hne; cases h')) (fun _ hk => hk.2) x) (fun _ hk => hk.1)) (blk_set hb o x)
theorem loadVar_sub {w : World} {g t : Nat} {pre vs post : List Value} (h : w.heap[g]? = some (.cells (pre ++ vs ++ post).toArray t (0, 0))) (ty : Nat) (hi : (Try.prog.info? ty).map (·.size) = some vs.length) (ha : (isAgg ty).run Try.prog w = .ok true w) : (loadVar ty ⟨g, pre.length, none⟩).run Try.prog w = .ok (.agg vs.toArray) w := by
  refine loadVar_list w ty g pre.length vs hi ha (fun j v hj => ?_)
  rw [blk_cell h]
  obtain ⟨h1, h2⟩ := List.getElem?_eq_some_iff.1 hj
  simp [List.getElem?_append, h1, h2]
theorem loadG_event {P : Program} {ops : Array Oper} {o : Oper} {rest : List Oper} {a : Act} {Q : Exit → Act → World → Prop} {W : World} {T : TypeId} {x : Operand} {v : Value} {g off : Nat} (hw : Region.wanted o (yielded ops a.tmps) = true) (ho : o.op = .load T x)
    (hx : a.eval x = .pointer (some ⟨g, off, none⟩)) (hs : (loadVar T ⟨g, off, none⟩).run P W = .ok v W) (h : wpList P ops Q rest (a.put o.dst v) W) : wpList P ops Q (o :: rest) a W := by
  refine wpList_step fun K hK => ?_
  rw [if_pos hw]
  unfold Oper.wp
  rw [loadN_run ho hx hs]
  exact hK _ _ h
theorem lit_event {P : Program} {ops : Array Oper} {o : Oper} {rest : List Oper} {a : Act} {Q : Exit → Act → World → Prop} {W : World} (hgd : o.guard = none) {N : Tmp} (_hd : o.dst = some N) {cs : Array Value} {t n : Nat}
    (hrun : (execOp a.eval o).run P W = .ok (.value (.slice (some ⟨W.heap.size, 0, none⟩) n n)) (W.alloc (.cells cs t (0, 0))))
    (h : ∀ g, g = W.heap.size → ∀ w1, w1.heap[g]? = some (.cells cs t (0, 0)) → Below W.heap.size W w1 → wpList P ops Q rest (a.put o.dst (.slice (some ⟨g, 0, none⟩) n n)) w1) : wpList P ops Q (o :: rest) a W :=
  Kd.event_run hgd hrun (h _ rfl _ (blk_new W _) (below_alloc (Below.refl _ _) _))
theorem new_blk (W : World) (cs : Array Value) (t : Nat) : ∃ (g : Nat) (w1 : World), g = W.heap.size ∧ w1 = World.alloc W (.cells cs t (0, 0)) ∧ w1.heap[g]? = some (.cells cs t (0, 0)) ∧ Below W.heap.size W w1 :=
  ⟨_, _, rfl, rfl, blk_new W _, below_alloc (Below.refl _ _) _⟩
theorem row_formK {α : Type} {d : Kd α} {e : Nat} {w' : World} {v : Value} {xs : List α} {b n : Nat} {ok : Nat → Prop} (h : Kd.R d e w' b ok v xs) (hn : xs.length = n) (h0 : 0 < n) : ∃ g cap, v = .slice (some ⟨g, 0, none⟩) n cap ∧ n ≤ cap ∧ Kd.C d w' (some ⟨g, 0, none⟩) n xs := by
  subst hn
  obtain ⟨g, cap, rfl, _⟩ := Kd.R_form h h0
  obtain ⟨_, h2, h3⟩ := Kd.R_reads' h
  exact ⟨g, cap, rfl, h2, h3⟩
theorem cell_below {w w' : World} {p : Addr} {v : Value} (hb : Below w.heap.size w w') (h : w.cell? p = some v) : w'.cell? p = some v := (hb.cell (World.block_lt_of_cell? w _ h)).trans h
theorem storeP_event {P : Program} {ops : Array Oper} {o : Oper} {rest : List Oper} {a : Act} {Q : Exit → Act → World → Prop} {W w1 : World} {T : TypeId} {p : Tmp} {v : Operand} (hgd : o.guard = none) (ho : o.op = .store T (.tmp p) v) (hN : o.dst = none) {ad : Addr} {x : Value}
    (hx : a.eval (.tmp p) = .pointer (some ad)) (hy : a.eval v = x) (hs : (storeVar T ad x).run P W = .ok () w1) (h : wpList P ops Q rest a w1) : wpList P ops Q (o :: rest) a W := by
  refine wpList_plain hgd fun K hK => ?_
  unfold Oper.wp execOp
  simp only [ho, hx, hy, Instr.storeAt, Instr.sureAddr, Sem.run_bind, Sem.run_pure, Result.andThen_ok, hs]
  show K (a.put o.dst undef) w1
  rw [hN]
  exact hK _ _ h
theorem storeVar_blk1 {P : Program} {w : World} {g t : Nat} {cs : Array Value} (h : w.heap[g]? = some (.cells cs t (0, 0))) (ty o : Nat) (u : Value) (hi : (P.info? ty).map (·.size) = some 1) (hu : u.cells.toList = [u]) (hfit : o + 1 ≤ cs.size) (h1 : u.oneCell' = true) : (storeVar ty ⟨g, o, none⟩ u).run P w = .ok () (World.setCells w g o [u]) := by
  have hs := run_store_run (P := P) (o := o) ty u [u] h hu hi hfit (fun q hq => by rw [List.mem_singleton.1 hq]; exact h1)
  simpa only [Instr.storeAt, Instr.sureAddr, Sem.run_bind, Sem.run_pure, Result.andThen_ok] using hs
theorem ints_at {k : IntKind} {w : World} {g t : Nat} {l : List Int} (hb : w.heap[g]? = some (.cells (l.map (Value.int k)).toArray t (0, 0))) (hn : l.length ≤ 9223372036854775807) : Kd.C (Kd.int k) w (some ⟨g, 0, none⟩) l.length l := by
  refine Kd.C_of_reads (d := (0 : Int)) (h1 := fun _ => rfl) ⟨rfl, hn, fun _ => ⟨⟨g, 0, none⟩, rfl, fun j hj => ?_⟩⟩
  have e : (⟨g, 0, none⟩ : Addr).add j = ⟨g, j, none⟩ := by
    by_cases h : j = 0
    · subst h; rfl
    · simp [Addr.add, h]
  rw [e, blk_cell hb]
  simp [List.getD_eq_getElem?_getD, List.getElem?_map, hj]
theorem conv_of {W : World} {A : Option Addr} {n c : Nat} {xs : List Int} (h : Kd.C (Kd.int .u8) W A n xs) : (convert 30 9 (.slice A n c)).run Try.prog W = .ok (.string (strOfNums xs)) W := Kd.C_string Try.underlying30 Try.underlying5 Try.underlying9 h
theorem conv_exec {o : Oper} {a : Act} {W : World} {x : Operand} {s t : TypeId} {y v : Value} (ho : o.op = .convert s t x) (hx : a.eval x = y) (h : (convert s t y).run Try.prog W = .ok v W) : (execOp a.eval o).run Try.prog W = .ok (.value v) W := by
  unfold execOp
  simp [ho, hx, h]
end Go.Proofs.Ytgapkifgddjijaa.Hx
