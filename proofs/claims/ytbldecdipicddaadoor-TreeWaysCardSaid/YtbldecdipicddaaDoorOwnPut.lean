/- One cell of an own row is written; rows of slice headers. -/
import Derived.Test.YtbldecdipicddaaDoorHRevD
set_option linter.unusedSimpArgs false
set_option linter.unusedVariables false
namespace Go.Proofs.YtbldecdipicddaaDoor.Hand
open Go Go.RowKit Go.Proofs.YtbldecdipicddaaDoorW.PrintWords Go.Proofs.YtbldecdipicddaaDoorW.PrintLast
theorem addr_at (g k : Nat) : (⟨g, 0, none⟩ : Addr).add k = ⟨g, k, none⟩ := by by_cases h : k = 0 <;> simp [Addr.add, h]
theorem own_put {α : Type} {d : Kd α} {P : Program} {W : World} {e b n cap g : Nat} {xs : List α} (HO : d.R e W b (fun _ => True) (.slice (some ⟨g, 0, none⟩) n cap) xs) (i : Nat) (hi : i < n) (j : Nat) (x' : α) (u : Value) (c : List Value) (hcl : c.length = d.sz)
    (hcc : ∀ j u, c[j]? = some u → W.cell? ⟨g, i * d.sz + j, none⟩ = some u) (hj : j + 1 ≤ d.sz) (hM : d.M W b (fun _ => False) x' (c.take j ++ [u] ++ c.drop (j + 1))) (hu : u.cells.toList = [u]) (t : TypeId) (ht : (P.info? t).map (·.size) = some 1) (h1 : u.oneCell' = true) :
    ∃ w1, (storeVar t ⟨g, i * d.sz + j, none⟩ u).run P W = .ok () w1 ∧ d.R e w1 b (fun _ => True) (.slice (some ⟨g, 0, none⟩) n cap) (xs.set i x') ∧ ∀ w0 : World, w0.heap.size ≤ b → Below w0.heap.size w0 W → Below w0.heap.size w0 w1 := by
  obtain ⟨hrow, hg⟩ := Kd.R_seg HO (i : Int) (by omega) (by omega) (c := c) (seg := [u]) (j := j) hcl hcc hj hM (fun k hk => hk.elim)
  rw [Int.toNat_natCast] at hrow hg
  have hbg : b ≤ g := Kd.R_base HO g (by simp [Value.ownBlock])
  have hnx : n = xs.length := (Kd.R_reads' HO).1
  refine ⟨_, ?_, hrow, fun w0 hw0 hB => ?_⟩
  · obtain ⟨_, inner, hown, hr⟩ := HO
    rcases hown.2 with ⟨hv, _⟩ | ⟨g', cap', cur, hv, hb, hh, hnc, hcm, hcs, _⟩
    · cases hv
    injection hv with ha _ hc
    injection ha with ha
    injection ha with hg'
    subst hg'; subst hc
    have h2 : i * d.sz + d.sz ≤ n * d.sz := by rw [← Nat.succ_mul]; exact Nat.mul_le_mul_right _ hi
    have h3 : n * d.sz ≤ cap * d.sz := Nat.mul_le_mul_right _ (by omega)
    have hs := run_store_run (P := P) (o := i * d.sz + j) t u [u] hh hu ht (by show i * d.sz + j + 1 ≤ _; omega) (fun q hq => by rw [List.mem_singleton.1 hq]; exact h1)
    simpa only [Instr.storeAt, Instr.sureAddr, Sem.run_bind, Sem.run_pure, Result.andThen_ok] using hs
  · refine hB.trans ⟨hg.os, hg.tape, hg.output, hg.size, fun k hk => ?_⟩
    rcases Nat.lt_or_ge k W.heap.size with hlt | hge
    · exact hg.block k hlt (fun he => by injection he with he; omega)
    · exact setCells_far [u] _ k (by omega)
theorem storeP_event {P : Program} {ops : Array Oper} {o : Oper} {rest : List Oper} {a : Act} {Q : Exit → Act → World → Prop} {W w1 : World} {T : TypeId} {p : Tmp} {v : Operand} (hgd : o.guard = none) (ho : o.op = .store T (.tmp p) v) (hN : o.dst = none) {ad : Addr} {x : Value}
    (hx : a.eval (.tmp p) = .pointer (some ad)) (hy : a.eval v = x) (hs : (storeVar T ad x).run P W = .ok () w1) (h : wpList P ops Q rest a w1) : wpList P ops Q (o :: rest) a W := by
  refine wpList_plain hgd fun K hK => ?_
  unfold Oper.wp execOp
  simp only [ho, hx, hy, Instr.storeAt, Instr.sureAddr, Sem.run_bind, Sem.run_pure, Result.andThen_ok, hs]
  show K (a.put o.dst undef) w1
  rw [hN]
  exact hK _ _ h
/-- A digest with another first byte. -/
def put0 (d : Dg) (y : Int) : Dg := fun k => if k = 0 then y else d k
theorem dg_put {W : World} {b : Nat} {v : Value} {xs : List Dg} (h : Kd.R kdg 23 W b (fun _ => True) v xs) (h0 : 0 < xs.length) : ∃ (ad : Addr) (cap : Nat), v = .slice (some ad) xs.length cap ∧ (∀ i, i < xs.length → W.cell? (ad.add (i * 20)) = some (.int .u8 (xs.getD i zdg 0))) ∧
    ∀ i, i < xs.length → ∀ y : Int, ∃ w1, (storeVar 5 (ad.add (i * 20)) (.int .u8 y)).run Tryd.prog W = .ok () w1 ∧ Kd.R kdg 23 w1 b (fun _ => True) (.slice (some ad) xs.length cap) (xs.set i (put0 (xs.getD i zdg) y)) ∧ ∀ w0 : World, w0.heap.size ≤ b → Below w0.heap.size w0 W → Below w0.heap.size w0 w1 := by
  obtain ⟨g, cap, rfl, hb, hlt, cur, hcur⟩ := Kd.R_form h h0
  have key : ∀ i, i < xs.length → ∀ j u, (dcs (xs.getD i zdg))[j]? = some u → W.cell? ⟨g, i * 20 + j, none⟩ = some u := by
    intro i hi j u hu
    obtain ⟨_, _, hC⟩ := Kd.R_reads' h
    obtain ⟨ad, e, hcell⟩ := hC.2.2 h0
    obtain rfl := Option.some.inj e
    obtain ⟨c, _, hk, hu2⟩ := hcell i _ (List.getElem?_eq_getElem hi)
    have ec := kdg_cells hk
    have e1 : xs.getD i zdg = xs[i] := by rw [List.getD_eq_getElem?_getD, List.getElem?_eq_getElem hi]; rfl
    rw [e1] at hu
    have := hu2 j u (by rw [ec]; exact hu)
    rwa [addr_at] at this
  refine ⟨⟨g, 0, none⟩, cap, rfl, fun i hi => ?_, fun i hi y => ?_⟩
  · rw [addr_at]
    exact key i hi 0 _ rfl
  · rw [addr_at]
    exact own_put (d := kdg) (P := Tryd.prog) h i hi 0 (put0 (xs.getD i zdg) y) (.int .u8 y) (dcs (xs.getD i zdg)) rfl (key i hi) (by decide) (dgM W b _ (put0 (xs.getD i zdg) y)) rfl 5 (by kernel_rfl) rfl
theorem dg_at {W : World} {b n cap : Nat} {ad : Addr} {xs : List Dg} (h : Kd.R kdg 23 W b (fun _ => True) (.slice (some ad) n cap) xs) (i : Nat) (hi : i < xs.length) : W.cell? (ad.add (i * 20)) = some (.int .u8 (xs.getD i zdg 0)) ∧
    ∀ y : Int, ∃ w1, (storeVar 5 (ad.add (i * 20)) (.int .u8 y)).run Tryd.prog W = .ok () w1 ∧ Kd.R kdg 23 w1 b (fun _ => True) (.slice (some ad) n cap) (xs.set i (put0 (xs.getD i zdg) y)) ∧ ∀ w0 : World, w0.heap.size ≤ b → Below w0.heap.size w0 W → Below w0.heap.size w0 w1 := by
  obtain ⟨ad', cap', e, hc, hp⟩ := dg_put h (by omega)
  injection e with e1 e2 e3
  obtain rfl := Option.some.inj e1
  subst e2 e3
  exact ⟨hc i hi, hp i hi⟩
/-- The header of a slice. -/
abbrev Hd := Option Addr × Nat × Nat
def hv (h : Hd) : Value := .slice h.1 h.2.1 h.2.2
def ksl : Kd Hd := Kd.scalar hv (fun _ => rfl)
theorem hd_put {W : World} {b : Nat} {v : Value} {xs : List Hd} (h : Kd.R ksl 26 W b (fun _ => True) v xs) (h0 : 0 < xs.length) : ∃ (ad : Addr) (cap : Nat), v = .slice (some ad) xs.length cap ∧
    ∀ i, i < xs.length → ∀ x : Hd, ∃ w1, (storeVar 26 (ad.add i) (.slice x.1 x.2.1 x.2.2)).run Tryd.prog W = .ok () w1 ∧ Kd.R ksl 26 w1 b (fun _ => True) (.slice (some ad) xs.length cap) (xs.set i x) ∧ ∀ w0 : World, w0.heap.size ≤ b → Below w0.heap.size w0 W → Below w0.heap.size w0 w1 := by
  obtain ⟨g, cap, rfl, hb, hlt, cur, hcur⟩ := Kd.R_form h h0
  refine ⟨⟨g, 0, none⟩, cap, rfl, fun i hi x => ?_⟩
  obtain ⟨_, _, hC⟩ := Kd.R_reads' h
  obtain ⟨ad, e, hcell⟩ := hC.2.2 h0
  obtain rfl := Option.some.inj e
  obtain ⟨c, hcl, hk, hu2⟩ := hcell i _ (List.getElem?_eq_getElem hi)
  have hp := own_put (d := ksl) (P := Tryd.prog) h i hi 0 x (hv x) c hcl (fun j u hu => by have := hu2 j u hu; rwa [addr_at] at this) (by decide) (by
    have e1 : c.length = 1 := hcl
    match c, e1 with
    | [y], _ => rfl) rfl 26 (by kernel_rfl) rfl
  rw [addr_at]
  rw [show i * ksl.sz + 0 = i by show i * 1 + 0 = i; omega] at hp
  exact hp
theorem hdrs_of {w : World} {A : Option Addr} {n : Nat} {ll : List (List Int)} (h : Kd.C (Kd.slice 5 (Kd.int .u8)) w A n ll) : ∃ hs : List Hd, hs.length = ll.length ∧ Kd.C ksl w A n hs ∧
    ∀ j, j < ll.length → ∃ Aj cj, hs[j]? = some (Aj, (ll.getD j []).length, cj) ∧ (ll.getD j []).length ≤ cj ∧ Kd.C (Kd.int .u8) w Aj (ll.getD j []).length (ll.getD j []) := by
  obtain ⟨h1, h2, h3⟩ := h
  have each : ∀ j, ∃ x : Hd, j < ll.length → ∃ ad, A = some ad ∧ w.cell? (ad.add j) = some (hv x) ∧ x.2.1 = (ll.getD j []).length ∧ (ll.getD j []).length ≤ x.2.2 ∧ Kd.C (Kd.int .u8) w x.1 (ll.getD j []).length (ll.getD j []) := by
    intro j
    by_cases hj : j < ll.length
    · obtain ⟨ad, e, hcell⟩ := h3 (by omega)
      subst e
      obtain ⟨Aj, cj, q1, q2, q3⟩ := rows_get ⟨h1, h2, h3⟩ j hj
      exact ⟨(Aj, (ll.getD j []).length, cj), fun _ => ⟨ad, rfl, q1, rfl, q2, q3⟩⟩
    · exact ⟨(none, 0, 0), fun h => absurd h hj⟩
  obtain ⟨y, hy⟩ : ∃ y : Nat → Hd, ∀ j, j < ll.length → ∃ ad, A = some ad ∧ w.cell? (ad.add j) = some (hv (y j)) ∧ (y j).2.1 = (ll.getD j []).length ∧ (ll.getD j []).length ≤ (y j).2.2 ∧ Kd.C (Kd.int .u8) w (y j).1 (ll.getD j []).length (ll.getD j []) := ⟨fun j => Classical.choose (each j), fun j hj => Classical.choose_spec (each j) hj⟩
  refine ⟨(List.range ll.length).map y, by rw [List.length_map, List.length_range], ⟨by rw [List.length_map, List.length_range]; exact h1, h2, fun hn => ?_⟩, fun j hj => ?_⟩
  · obtain ⟨ad, e, _⟩ := h3 hn
    refine ⟨ad, e, fun j p hj => ?_⟩
    have hj' : j < ll.length := by
      have := (List.getElem?_eq_some_iff.1 hj).1
      simpa using this
    rw [List.getElem?_map, List.getElem?_range hj'] at hj
    obtain rfl := Option.some.inj hj
    obtain ⟨ad', e', q, _⟩ := hy j hj'
    rw [e] at e'
    obtain rfl := Option.some.inj e'
    refine ⟨[hv (y j)], rfl, rfl, fun i u hi => ?_⟩
    match i, hi with
    | 0, hi =>
      cases hi
      show w.cell? (ad.add (j * 1 + 0)) = _
      rw [Nat.mul_one, Nat.add_zero, q]
    | i + 1, hi => simp at hi
  · obtain ⟨ad, e, q1, q2, q3, q4⟩ := hy j hj
    refine ⟨(y j).1, (y j).2.2, ?_, q3, q4⟩
    rw [List.getElem?_map, List.getElem?_range hj, ← q2]
    rfl
theorem rows_hdrs {w : World} {A : Option Addr} {n : Nat} {hs : List Hd} {ll : List (List Int)} (h : Kd.C ksl w A n hs) (hl : hs.length = ll.length) (each : ∀ j, j < ll.length → ∃ Aj cj, hs[j]? = some (Aj, (ll.getD j []).length, cj) ∧ (ll.getD j []).length ≤ cj ∧ Kd.C (Kd.int .u8) w Aj (ll.getD j []).length (ll.getD j [])) :
    Kd.C (Kd.slice 5 (Kd.int .u8)) w A n ll := by
  obtain ⟨h1, h2, h3⟩ := h
  refine ⟨by rw [← hl]; exact h1, h2, fun hn => ?_⟩
  obtain ⟨ad, e, hcell⟩ := h3 hn
  refine ⟨ad, e, fun j p hj => ?_⟩
  have hj' : j < ll.length := (List.getElem?_eq_some_iff.1 hj).1
  have ep : ll.getD j [] = p := by rw [List.getD_eq_getElem?_getD, hj]; rfl
  obtain ⟨Aj, cj, q1, q2, q3⟩ := each j hj'
  rw [ep] at q1 q2 q3
  obtain ⟨c, hc, hk, hu⟩ := hcell j _ q1
  have hk' : c = [hv (Aj, p.length, cj)] := hk
  subst hk'
  exact ⟨[.slice Aj p.length cj], rfl, ⟨Aj, cj, rfl, q2, q3⟩, hu⟩
end Go.Proofs.YtbldecdipicddaaDoor.Hand
