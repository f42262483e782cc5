/- sha.Sum. Written by wip/s1/mksum.py. -/
import Derived.Test.YtbldecdipicddaaDoorHConcat
import Derived.Test.YtbldecdipicddaaDoorHDo
set_option linter.unusedSimpArgs false
set_option linter.unusedVariables false
namespace Go.Proofs.YtbldecdipicddaaDoor.Hand
open Go Go.RowKit Go.Proofs.YtbldecdipicddaaDoorW.PrintWords Go.Proofs.YtbldecdipicddaaDoorW.PrintLast
@[go_sem] theorem run_idx42_0 (a b c d e : Int) (w : World) : Sem.run Tryd.prog (Instr.index 42 (.agg #[.int .u32 a, .int .u32 b, .int .u32 c, .int .u32 d, .int .u32 e]) (.int .i64 0)) w = .ok (.int .u32 a) w := by kernel_rfl
@[go_sem] theorem run_idx42_1 (a b c d e : Int) (w : World) : Sem.run Tryd.prog (Instr.index 42 (.agg #[.int .u32 a, .int .u32 b, .int .u32 c, .int .u32 d, .int .u32 e]) (.int .i64 1)) w = .ok (.int .u32 b) w := by kernel_rfl
@[go_sem] theorem run_idx42_2 (a b c d e : Int) (w : World) : Sem.run Tryd.prog (Instr.index 42 (.agg #[.int .u32 a, .int .u32 b, .int .u32 c, .int .u32 d, .int .u32 e]) (.int .i64 2)) w = .ok (.int .u32 c) w := by kernel_rfl
@[go_sem] theorem run_idx42_3 (a b c d e : Int) (w : World) : Sem.run Tryd.prog (Instr.index 42 (.agg #[.int .u32 a, .int .u32 b, .int .u32 c, .int .u32 d, .int .u32 e]) (.int .i64 3)) w = .ok (.int .u32 d) w := by kernel_rfl
@[go_sem] theorem run_idx42_4 (a b c d e : Int) (w : World) : Sem.run Tryd.prog (Instr.index 42 (.agg #[.int .u32 a, .int .u32 b, .int .u32 c, .int .u32 d, .int .u32 e]) (.int .i64 4)) w = .ok (.int .u32 e) w := by kernel_rfl
theorem lit_event {P : Program} {ops : Array Oper} {o : Oper} {rest : List Oper} {a : Act} {Q : Exit → Act → World → Prop} {W : World} (hgd : o.guard = none) {N : Tmp} (_hd : o.dst = some N) {cs : Array Value} {t n : Nat}
    (hrun : (execOp a.eval o).run P W = .ok (.value (.slice (some ⟨W.heap.size, 0, none⟩) n n)) (W.alloc (.cells cs t (0, 0))))
    (h : ∀ g, g = W.heap.size → ∀ w1, w1.heap[g]? = some (.cells cs t (0, 0)) → Below W.heap.size W w1 → wpList P ops Q rest (a.put o.dst (.slice (some ⟨g, 0, none⟩) n n)) w1) : wpList P ops Q (o :: rest) a W :=
  Kd.event_run hgd hrun (h _ rfl _ (blk_new W _) (below_alloc (Below.refl _ _) _))
theorem rows_mk {w : World} {g t : Nat} {ll : List (List Int)} {vs : List Value} (hb : w.heap[g]? = some (.cells vs.toArray t (0, 0))) (hn : ll.length ≤ 9223372036854775807)
    (h : ∀ (i : Nat) (x : List Int), ll[i]? = some x → ∃ (A : Option Addr) (c : Nat), vs[i]? = some (Value.slice A x.length c) ∧ x.length ≤ c ∧ Kd.C (Kd.int .u8) w A x.length x) : Kd.C (Kd.slice 5 (Kd.int .u8)) w (some ⟨g, 0, none⟩) ll.length ll := by
  refine ⟨rfl, hn, fun _ => ⟨⟨g, 0, none⟩, rfl, fun j p hj => ?_⟩⟩
  obtain ⟨A, c, hv, hle, hC⟩ := h j p hj
  refine ⟨[.slice A p.length c], rfl, ⟨A, c, rfl, hle, hC⟩, fun i u hi => ?_⟩
  match i, hi with
  | 0, hi =>
    cases hi
    show w.cell? ((⟨g, 0, none⟩ : Addr).add (j * 1 + 0)) = _
    rw [show (⟨g, 0, none⟩ : Addr).add (j * 1 + 0) = ⟨g, j, none⟩ by by_cases h0 : j = 0 <;> simp [Addr.add, h0], blk_cell hb]
    simpa using hv
  | i + 1, hi => simp at hi
theorem rows2 {w : World} {g t c c' : Nat} {A A' : Option Addr} {l p : List Int} (hb : w.heap[g]? = some (.cells #[.slice A l.length c, .slice A' p.length c'] t (0, 0))) (h1 : Kd.C (Kd.int .u8) w A l.length l) (q1 : l.length ≤ c) (h2 : Kd.C (Kd.int .u8) w A' p.length p) (q2 : p.length ≤ c') : Kd.C (Kd.slice 5 (Kd.int .u8)) w (some ⟨g, 0, none⟩) 2 [l, p] :=
  rows_mk (ll := [l, p]) (vs := [.slice A l.length c, .slice A' p.length c']) hb (by simp) (fun i x hi => match i, hi with
    | 0, hi => by cases hi; exact ⟨A, c, rfl, q1, h1⟩
    | 1, hi => by cases hi; exact ⟨A', c', rfl, q2, h2⟩
    | i + 2, hi => by simp at hi)
abbrev W5 := Int × Int × Int × Int × Int
def doW (h : W5) (l : List Int) : W5 := doF h.1 h.2.1 h.2.2.1 h.2.2.2.1 h.2.2.2.2 l
/-- So many blocks, one behind the other. -/
def fold64 (F : W5 → List Int → W5) : Nat → W5 → List Int → W5
  | 0, h, _ => h
  | m + 1, h, l => fold64 F m (F h l) (l.drop 64)
def first5 : W5 := (1732584193, 4023233417, 2562383102, 271733878, 3285377520)
def b4 (x : Int) : List Int := [x / 16777216 % 256, x / 65536 % 256, x / 256 % 256, x % 256]
def upd (h : W5) : Nat → Array Value
  | 0 => #[.int .u8 0, .int .u8 0, .int .u8 0, .int .u8 0, .int .u8 0, .int .u8 0, .int .u8 0, .int .u8 0, .int .u8 0, .int .u8 0, .int .u8 0, .int .u8 0, .int .u8 0, .int .u8 0, .int .u8 0, .int .u8 0, .int .u8 0, .int .u8 0, .int .u8 0, .int .u8 0]
  | 1 => #[.int .u8 (h.1 / 16777216 % 256), .int .u8 (h.1 / 65536 % 256), .int .u8 (h.1 / 256 % 256), .int .u8 (h.1 % 256), .int .u8 0, .int .u8 0, .int .u8 0, .int .u8 0, .int .u8 0, .int .u8 0, .int .u8 0, .int .u8 0, .int .u8 0, .int .u8 0, .int .u8 0, .int .u8 0, .int .u8 0, .int .u8 0, .int .u8 0, .int .u8 0]
  | 2 => #[.int .u8 (h.1 / 16777216 % 256), .int .u8 (h.1 / 65536 % 256), .int .u8 (h.1 / 256 % 256), .int .u8 (h.1 % 256), .int .u8 (h.2.1 / 16777216 % 256), .int .u8 (h.2.1 / 65536 % 256), .int .u8 (h.2.1 / 256 % 256), .int .u8 (h.2.1 % 256), .int .u8 0, .int .u8 0, .int .u8 0, .int .u8 0, .int .u8 0, .int .u8 0, .int .u8 0, .int .u8 0, .int .u8 0, .int .u8 0, .int .u8 0, .int .u8 0]
  | 3 => #[.int .u8 (h.1 / 16777216 % 256), .int .u8 (h.1 / 65536 % 256), .int .u8 (h.1 / 256 % 256), .int .u8 (h.1 % 256), .int .u8 (h.2.1 / 16777216 % 256), .int .u8 (h.2.1 / 65536 % 256), .int .u8 (h.2.1 / 256 % 256), .int .u8 (h.2.1 % 256), .int .u8 (h.2.2.1 / 16777216 % 256), .int .u8 (h.2.2.1 / 65536 % 256), .int .u8 (h.2.2.1 / 256 % 256), .int .u8 (h.2.2.1 % 256), .int .u8 0, .int .u8 0, .int .u8 0, .int .u8 0, .int .u8 0, .int .u8 0, .int .u8 0, .int .u8 0]
  | 4 => #[.int .u8 (h.1 / 16777216 % 256), .int .u8 (h.1 / 65536 % 256), .int .u8 (h.1 / 256 % 256), .int .u8 (h.1 % 256), .int .u8 (h.2.1 / 16777216 % 256), .int .u8 (h.2.1 / 65536 % 256), .int .u8 (h.2.1 / 256 % 256), .int .u8 (h.2.1 % 256), .int .u8 (h.2.2.1 / 16777216 % 256), .int .u8 (h.2.2.1 / 65536 % 256), .int .u8 (h.2.2.1 / 256 % 256), .int .u8 (h.2.2.1 % 256), .int .u8 (h.2.2.2.1 / 16777216 % 256), .int .u8 (h.2.2.2.1 / 65536 % 256), .int .u8 (h.2.2.2.1 / 256 % 256), .int .u8 (h.2.2.2.1 % 256), .int .u8 0, .int .u8 0, .int .u8 0, .int .u8 0]
  | _ + 5 => #[.int .u8 (h.1 / 16777216 % 256), .int .u8 (h.1 / 65536 % 256), .int .u8 (h.1 / 256 % 256), .int .u8 (h.1 % 256), .int .u8 (h.2.1 / 16777216 % 256), .int .u8 (h.2.1 / 65536 % 256), .int .u8 (h.2.1 / 256 % 256), .int .u8 (h.2.1 % 256), .int .u8 (h.2.2.1 / 16777216 % 256), .int .u8 (h.2.2.1 / 65536 % 256), .int .u8 (h.2.2.1 / 256 % 256), .int .u8 (h.2.2.1 % 256), .int .u8 (h.2.2.2.1 / 16777216 % 256), .int .u8 (h.2.2.2.1 / 65536 % 256), .int .u8 (h.2.2.2.1 / 256 % 256), .int .u8 (h.2.2.2.1 % 256), .int .u8 (h.2.2.2.2 / 16777216 % 256), .int .u8 (h.2.2.2.2 / 65536 % 256), .int .u8 (h.2.2.2.2 / 256 % 256), .int .u8 (h.2.2.2.2 % 256)]
def dig (h : W5) : List Int := b4 h.1 ++ b4 h.2.1 ++ b4 h.2.2.1 ++ b4 h.2.2.2.1 ++ b4 h.2.2.2.2
set_option maxHeartbeats 3200000 in
set_option maxRecDepth 100000 in
theorem sum_ok (A : Option Addr) (c : Nat) (l pl all : List Int) (M : Nat) (w : World) (hT : TabQ w) (hr : Kd.C (Kd.int .u8) w A l.length l) (hc : l.length ≤ c) (hlen : l.length ≤ 20000) (hM : all.length = 64 * M) (hM0 : 0 < M) (hM2 : M < 10000)
    (hpad : ∀ W : World, Calls Tryd.prog 68 #[.int .i64 (l.length : Int)] W fun e w' => ∃ v0_ : Value, e = .returned v0_ ∧ Kd.R (Kd.int .u8) 5 w' W.heap.size (fun _ => True) v0_ pl ∧ Below W.heap.size W w')
    (hcat : ∀ (W : World) (a : Addr) (k : Nat), Kd.C (Kd.slice 5 (Kd.int .u8)) W (some a) 2 [l, pl] → Calls Tryd.prog 79 #[.slice (some a) 2 k] W fun e w' => ∃ v0_ : Value, e = .returned v0_ ∧ Kd.R (Kd.int .u8) 5 w' W.heap.size (fun _ => True) v0_ all ∧ Below W.heap.size W w') :
    Calls Tryd.prog 44 #[.slice A l.length c] w fun e w' => e = .returned (.tuple #[.agg ((dig (fold64 doW M first5 all)).map (Value.int .u8)).toArray, .int .i64 0]) ∧ Below w.heap.size w w' := by
  have HT := Aside0.mk hT
  have HR := Aside0.mk hr
  have HLC := Aside0.mk hc
  have HP := Aside0.mk hpad
  have HCT := Aside0.mk hcat
  have HM := Aside0.mk (And.intro hM (And.intro hM0 hM2))
  have hl1 : (20000 < (l.length : Int)) = False := eq_false (by omega)
  have hl2 : decide (20000 < (l.length : Int)) = false := decide_eq_false (by omega)
  clear hT hr hc hpad hcat hM hM0 hM2 hlen
  go_enter Tryd.func44, Tryd.ntmps44
  go_wp2_with (first | ((with_reducible refine gate_dst (N := 2) rfl ?_); refine box_event ?hg (N := 2) ?hd (cs := #[.int .u8 0, .int .u8 0, .int .u8 0, .int .u8 0, .int .u8 0, .int .u8 0, .int .u8 0, .int .u8 0, .int .u8 0, .int .u8 0, .int .u8 0, .int .u8 0, .int .u8 0, .int .u8 0, .int .u8 0, .int .u8 0, .int .u8 0, .int .u8 0, .int .u8 0, .int .u8 0]) (t := 23) ?hr ?_; (case hd => rfl); (case hg => rfl); (case hr => first | (go_simp; done) | (go_simp; rfl)); intro g1 hgg1 w2 hhg1 hbg1; have H5 := Aside0.mk hhg1; have G3 : w.heap.size ≤ g1 := Nat.le_of_eq hgg1.symm; have B4 := Aside0.mk (hbg1); clear hgg1 hhg1 hbg1) | ((with_reducible refine gate_dst (N := 4) rfl ?_); refine box_event ?hg (N := 4) ?hd (cs := #[.int .u32 0, .int .u32 0, .int .u32 0, .int .u32 0, .int .u32 0]) (t := 42) ?hr ?_; (case hd => rfl); (case hg => rfl); (case hr => first | (go_simp; done) | (go_simp; rfl)); intro g6 hgg6 w7 hhg6 hbg6; have H12 := Aside0.mk hhg6; have N8 : g1 ≠ g6 := Nat.ne_of_lt (Nat.lt_of_lt_of_eq (blk_lt H5.out) hgg6.symm); have G9 : w.heap.size ≤ g6 := Nat.le_trans B4.out.size (Nat.le_of_eq hgg6.symm); have B10 := Aside0.mk (below_step B4.out hbg6); have H11 := Aside0.mk (blk_below H5.out hbg6); clear hgg6 hhg6 hbg6 B4 H5) | ((with_reducible refine gate_store (t := 42) (p := _) rfl ?_); refine storeN_event (T := 42) rfl rfl rfl rfl rfl (storeVar_blk H12.out 42 0 [.int .u32 1732584193, .int .u32 4023233417, .int .u32 2562383102, .int .u32 271733878, .int .u32 3285377520] (by kernel_rfl) rfl (by simp)) ?_; have H14 := Aside0.mk (show (World.setCells w7 g6 0 [.int .u32 1732584193, .int .u32 4023233417, .int .u32 2562383102, .int .u32 271733878, .int .u32 3285377520]).heap[g6]? = some (.cells #[.int .u32 1732584193, .int .u32 4023233417, .int .u32 2562383102, .int .u32 271733878, .int .u32 3285377520] 42 (0, 0)) from blk_setCells [] [.int .u32 1732584193, .int .u32 4023233417, .int .u32 2562383102, .int .u32 271733878, .int .u32 3285377520] [.int .u32 0, .int .u32 0, .int .u32 0, .int .u32 0, .int .u32 0] [] w7 rfl H12.out); have H15 := Aside0.mk (far_setCells N8 [.int .u32 1732584193, .int .u32 4023233417, .int .u32 2562383102, .int .u32 271733878, .int .u32 3285377520] 0 w7 H11.out); have B16 := Aside0.mk (below_setCells G9 [.int .u32 1732584193, .int .u32 4023233417, .int .u32 2562383102, .int .u32 271733878, .int .u32 3285377520] 0 w7 B10.out); clear H12 H11 B10; generalize World.setCells w7 g6 0 [.int .u32 1732584193, .int .u32 4023233417, .int .u32 2562383102, .int .u32 271733878, .int .u32 3285377520] = w13 at H15 H14 B16 ⊢))
  refine (HP.out w13).mono ?_
  rintro e w17 ⟨v_, rfl, hR_, hb_⟩
  have B18 := Aside0.mk (below_step B16.out hb_)
  have H19 := Aside0.mk (blk_below H15.out hb_)
  have H20 := Aside0.mk (blk_below H14.out hb_)
  clear hb_ B16 H15 H14
  obtain ⟨r21, c22, rfl, hle_, hC_⟩ := Kd.R_reads hR_
  have RP := Aside0.mk hC_
  have LP := Aside0.mk hle_
  clear hC_ hle_ hR_
  go_wp2_with (first | ((with_reducible refine gate_dst (N := 17) rfl ?_); refine lit_event ?hg (N := 17) ?hd (cs := #[.slice A l.length c, .slice r21 pl.length c22]) (t := 26) (n := 2) ?hr ?_; (case hd => rfl); (case hg => rfl); (case hr => first | (go_simp; done) | (go_simp; rfl)); intro g17 hg_ w23 hh_ hb_; have H17 := Aside0.mk hh_; have B24 := Aside0.mk (below_step B18.out hb_); have B25 := Aside0.mk (hb_); have H26 := Aside0.mk (blk_below H19.out hb_); have H27 := Aside0.mk (blk_below H20.out hb_); clear hg_ hh_ hb_ B18 H19 H20))
  have HSZ := Aside0.mk (below_size B24.out)
  refine (HCT.out w23 ⟨g17, 0, none⟩ 2 (rows2 H17.out (Kd.C_below HR.out B24.out) HLC.out (Kd.C_below RP.out B25.out) LP.out)).mono ?_
  rintro e w28 ⟨v_, rfl, hR_, hb_⟩
  have B29 := Aside0.mk (below_step B24.out hb_)
  have B30 := Aside0.mk (below_step B25.out hb_)
  have H31 := Aside0.mk (blk_below H26.out hb_)
  have H32 := Aside0.mk (blk_below H27.out hb_)
  clear hb_ B24 B25 H26 H27
  obtain ⟨ra, ca, rfl, hle_, hC_⟩ := row_form hR_ (n := 64 * M) HM.out.1 (by have := HM.out; omega)
  have RO1 := Aside0.mk (Kd.R_lower hR_ HSZ.out)
  have LA1 := Aside0.mk hle_
  clear hC_ hle_ hR_
  go_wp2_with fail
  go_loopg [5] M (fun n v5 w' => ∃ (j m : Nat) (A' : Option Addr) (c' : Nat) (h : W5), v5 = .slice A' (64 * m) c' ∧ Aside0 (m = n) ∧ Aside0 (j + m = M) ∧ Aside0 (64 * m ≤ c') ∧ Aside0 (fold64 doW m h (all.drop (64 * j)) = fold64 doW M first5 all) ∧ Aside0 (∀ (W : World) (b : Nat), Kd.R (Kd.int .u8) 5 W b (fun _ => True) (Value.slice (some ⟨ra, 0, none⟩) (64 * M) ca) all → Kd.C (Kd.int .u8) W A' (64 * m) (all.drop (64 * j))) ∧ Aside0 (w'.heap[g1]? = some (.cells #[.int .u8 0, .int .u8 0, .int .u8 0, .int .u8 0, .int .u8 0, .int .u8 0, .int .u8 0, .int .u8 0, .int .u8 0, .int .u8 0, .int .u8 0, .int .u8 0, .int .u8 0, .int .u8 0, .int .u8 0, .int .u8 0, .int .u8 0, .int .u8 0, .int .u8 0, .int .u8 0] 23 (0, 0))) ∧ Aside0 (w'.heap[g6]? = some (.cells #[.int .u32 (h).1, .int .u32 (h).2.1, .int .u32 (h).2.2.1, .int .u32 (h).2.2.2.1, .int .u32 (h).2.2.2.2] 42 (0, 0))) ∧ Aside0 (Below w.heap.size w w') ∧ Aside0 (Kd.R (Kd.int .u8) 5 w' w.heap.size (fun _ => True) (Value.slice (some ⟨ra, 0, none⟩) (64 * M) ca) all))
  case atStart => exact ⟨0, M, _, _, first5, rfl, ⟨rfl⟩, ⟨by omega⟩, LA1, ⟨rfl⟩, ⟨fun W b h => by have h1 := (Kd.R_reads' h).2.2; rw [HM.out.1] at h1; exact h1⟩, H31, H32, B29, RO1⟩
  case round =>
    clear H31 H32 B29 RO1 LA1 RP LP
    obtain ⟨j, m, A', c', h, rfl, HK, HJ, HLC2, HF, HC2, HA2, HA4, BB, BA⟩ := hrel
    by_cases hk : 0 < m
    · obtain ⟨go, rfl⟩ : ∃ k, gk = k + 1 := ⟨gk - 1, by have := HK.out; omega⟩
      obtain ⟨m, rfl⟩ : ∃ k, m = k + 1 := ⟨m - 1, by omega⟩
      have hlen2 : (all.drop (64 * j)).length = 64 * (m + 1) := by rw [List.length_drop, HM.out.1]; have := HJ.out; omega
      obtain ⟨ad, rfl, hx_⟩ : ∃ ad, A' = some ad ∧ True := by obtain ⟨ad, e, _⟩ := (HC2.out _ _ BA.out).2.2 (by omega); exact ⟨ad, e, trivial⟩
      clear hx_
      have HL2 := Aside0.mk hlen2
      clear hlen2
      have q1 : (0 < 64 * (m + 1)) = True := eq_true (by omega)
      have q2 : (0 < ((64 * (m + 1) : Nat) : Int)) = True := eq_true (by omega)
      go_wp2_with (first | ((with_reducible refine gate_dst (N := 24) rfl ?_); refine loadG_event (T := 42) (by rfl) rfl rfl (run_loadVar_row _ _ _ _ _ (0, 0) _ HA4.out Tryd.underlying42 rfl (by kernel_rfl)) ?_))
      refine (do_calls h.1 h.2.1 h.2.2.1 h.2.2.2.1 h.2.2.2.2 ad (64 * (m + 1)) c' (all.drop (64 * j)) wr (HT.out.at BB.out) (HC2.out _ _ BA.out) HL2.out (by omega) HLC2.out).mono ?_
      rintro e w2 ⟨rfl, hb_⟩
      have HA22 := Aside0.mk (blk_below HA2.out hb_)
      have HA42 := Aside0.mk (blk_below HA4.out hb_)
      have BB2 := Aside0.mk (below_step BB.out hb_)
      have BA2 := Aside0.mk (Kd.R_below BA.out hb_)
      clear hb_ HA2 HA4 BB BA
      obtain ⟨i0, hi0, _, hsz, _⟩ := info_parts info5p
      have hle2 := HLC2.out
      obtain ⟨A2, hA2⟩ : ∃ A2 : Option Addr, A2 = (if c' = 64 then some ad else (some ad).map (·.add (64 * 1))) := ⟨_, rfl⟩
      have hcut : ∀ W : World, (Instr.slice 26 (.slice (some ad) (64 * (m + 1)) c') (some (.int .i64 64)) none none).run Tryd.prog W = .ok (.slice A2 (64 * (m + 1) - 64) (c' - 64)) W := by
        rw [hA2]
        exact cut_from (P := Tryd.prog) 26 5 .i64 Tryd.underlying26 hi0 1 hsz (some ad) (64 * (m + 1)) c' 64 (by omega) (by omega)
      have HC6 := Aside0.mk (show ∀ (W : World) (b : Nat), Kd.R (Kd.int .u8) 5 W b (fun _ => True) (Value.slice (some ⟨ra, 0, none⟩) (64 * M) ca) all → Kd.C (Kd.int .u8) W A2 (all.drop (64 * (j + 1))).length (all.drop (64 * (j + 1))) by
        intro W b hW
        rw [hA2, show all.drop (64 * (j + 1)) = (all.drop (64 * j)).drop 64 by rw [List.drop_drop]; rfl]
        have h0 := HC2.out W b hW
        rw [← HL2.out] at h0 hle2
        exact Kd.C_drop (m := 64) h0 (by rw [HL2.out]; omega) hle2)
      have HL6 := Aside0.mk (show (all.drop (64 * (j + 1))).length = 64 * m by rw [List.length_drop, HM.out.1]; have := HJ.out; omega)
      clear hA2 hi0 hsz hle2
      go_wp2_with (first | ((with_reducible refine gate_store (t := 42) (p := _) rfl ?_); refine storeN_event (T := 42) rfl rfl rfl rfl rfl (storeVar_blk HA42.out 42 0 [.int .u32 ((doF h.1 h.2.1 h.2.2.1 h.2.2.2.1 h.2.2.2.2 (all.drop (64 * j)))).1, .int .u32 ((doF h.1 h.2.1 h.2.2.1 h.2.2.2.1 h.2.2.2.2 (all.drop (64 * j)))).2.1, .int .u32 ((doF h.1 h.2.1 h.2.2.1 h.2.2.2.1 h.2.2.2.2 (all.drop (64 * j)))).2.2.1, .int .u32 ((doF h.1 h.2.1 h.2.2.1 h.2.2.2.1 h.2.2.2.2 (all.drop (64 * j)))).2.2.2.1, .int .u32 ((doF h.1 h.2.1 h.2.2.1 h.2.2.2.1 h.2.2.2.2 (all.drop (64 * j)))).2.2.2.2] (by kernel_rfl) rfl (by simp)) ?_; have HA43 := Aside0.mk (show (World.setCells w2 g6 0 [.int .u32 ((doF h.1 h.2.1 h.2.2.1 h.2.2.2.1 h.2.2.2.2 (all.drop (64 * j)))).1, .int .u32 ((doF h.1 h.2.1 h.2.2.1 h.2.2.2.1 h.2.2.2.2 (all.drop (64 * j)))).2.1, .int .u32 ((doF h.1 h.2.1 h.2.2.1 h.2.2.2.1 h.2.2.2.2 (all.drop (64 * j)))).2.2.1, .int .u32 ((doF h.1 h.2.1 h.2.2.1 h.2.2.2.1 h.2.2.2.2 (all.drop (64 * j)))).2.2.2.1, .int .u32 ((doF h.1 h.2.1 h.2.2.1 h.2.2.2.1 h.2.2.2.2 (all.drop (64 * j)))).2.2.2.2]).heap[g6]? = some (.cells #[.int .u32 ((doF h.1 h.2.1 h.2.2.1 h.2.2.2.1 h.2.2.2.2 (all.drop (64 * j)))).1, .int .u32 ((doF h.1 h.2.1 h.2.2.1 h.2.2.2.1 h.2.2.2.2 (all.drop (64 * j)))).2.1, .int .u32 ((doF h.1 h.2.1 h.2.2.1 h.2.2.2.1 h.2.2.2.2 (all.drop (64 * j)))).2.2.1, .int .u32 ((doF h.1 h.2.1 h.2.2.1 h.2.2.2.1 h.2.2.2.2 (all.drop (64 * j)))).2.2.2.1, .int .u32 ((doF h.1 h.2.1 h.2.2.1 h.2.2.2.1 h.2.2.2.2 (all.drop (64 * j)))).2.2.2.2] 42 (0, 0)) from blk_setCells [] [.int .u32 ((doF h.1 h.2.1 h.2.2.1 h.2.2.2.1 h.2.2.2.2 (all.drop (64 * j)))).1, .int .u32 ((doF h.1 h.2.1 h.2.2.1 h.2.2.2.1 h.2.2.2.2 (all.drop (64 * j)))).2.1, .int .u32 ((doF h.1 h.2.1 h.2.2.1 h.2.2.2.1 h.2.2.2.2 (all.drop (64 * j)))).2.2.1, .int .u32 ((doF h.1 h.2.1 h.2.2.1 h.2.2.2.1 h.2.2.2.2 (all.drop (64 * j)))).2.2.2.1, .int .u32 ((doF h.1 h.2.1 h.2.2.1 h.2.2.2.1 h.2.2.2.2 (all.drop (64 * j)))).2.2.2.2] [.int .u32 (h).1, .int .u32 (h).2.1, .int .u32 (h).2.2.1, .int .u32 (h).2.2.2.1, .int .u32 (h).2.2.2.2] [] w2 rfl HA42.out); have HA23 := Aside0.mk (far_setCells N8 [.int .u32 ((doF h.1 h.2.1 h.2.2.1 h.2.2.2.1 h.2.2.2.2 (all.drop (64 * j)))).1, .int .u32 ((doF h.1 h.2.1 h.2.2.1 h.2.2.2.1 h.2.2.2.2 (all.drop (64 * j)))).2.1, .int .u32 ((doF h.1 h.2.1 h.2.2.1 h.2.2.2.1 h.2.2.2.2 (all.drop (64 * j)))).2.2.1, .int .u32 ((doF h.1 h.2.1 h.2.2.1 h.2.2.2.1 h.2.2.2.2 (all.drop (64 * j)))).2.2.2.1, .int .u32 ((doF h.1 h.2.1 h.2.2.1 h.2.2.2.1 h.2.2.2.2 (all.drop (64 * j)))).2.2.2.2] 0 w2 HA22.out); have BB3 := Aside0.mk (below_setCells G9 [.int .u32 ((doF h.1 h.2.1 h.2.2.1 h.2.2.2.1 h.2.2.2.2 (all.drop (64 * j)))).1, .int .u32 ((doF h.1 h.2.1 h.2.2.1 h.2.2.2.1 h.2.2.2.2 (all.drop (64 * j)))).2.1, .int .u32 ((doF h.1 h.2.1 h.2.2.1 h.2.2.2.1 h.2.2.2.2 (all.drop (64 * j)))).2.2.1, .int .u32 ((doF h.1 h.2.1 h.2.2.1 h.2.2.2.1 h.2.2.2.2 (all.drop (64 * j)))).2.2.2.1, .int .u32 ((doF h.1 h.2.1 h.2.2.1 h.2.2.2.1 h.2.2.2.2 (all.drop (64 * j)))).2.2.2.2] 0 w2 BB2.out); have BA3 := Aside0.mk (R_setCells (show (5 : Nat) ≠ 42 by decide) [.int .u32 ((doF h.1 h.2.1 h.2.2.1 h.2.2.2.1 h.2.2.2.2 (all.drop (64 * j)))).1, .int .u32 ((doF h.1 h.2.1 h.2.2.1 h.2.2.2.1 h.2.2.2.2 (all.drop (64 * j)))).2.1, .int .u32 ((doF h.1 h.2.1 h.2.2.1 h.2.2.2.1 h.2.2.2.2 (all.drop (64 * j)))).2.2.1, .int .u32 ((doF h.1 h.2.1 h.2.2.1 h.2.2.2.1 h.2.2.2.2 (all.drop (64 * j)))).2.2.2.1, .int .u32 ((doF h.1 h.2.1 h.2.2.1 h.2.2.2.1 h.2.2.2.2 (all.drop (64 * j)))).2.2.2.2] 0 w2 BA2.out HA42.out); clear HA42 HA22 BB2 BA2; generalize World.setCells w2 g6 0 [.int .u32 ((doF h.1 h.2.1 h.2.2.1 h.2.2.2.1 h.2.2.2.2 (all.drop (64 * j)))).1, .int .u32 ((doF h.1 h.2.1 h.2.2.1 h.2.2.2.1 h.2.2.2.2 (all.drop (64 * j)))).2.1, .int .u32 ((doF h.1 h.2.1 h.2.2.1 h.2.2.2.1 h.2.2.2.2 (all.drop (64 * j)))).2.2.1, .int .u32 ((doF h.1 h.2.1 h.2.2.1 h.2.2.2.1 h.2.2.2.2 (all.drop (64 * j)))).2.2.2.1, .int .u32 ((doF h.1 h.2.1 h.2.2.1 h.2.2.2.1 h.2.2.2.2 (all.drop (64 * j)))).2.2.2.2] = w3 at HA43 HA23 BB3 BA3 ⊢))
      go_roundg go
      case measure => have := HK.out; omega
      case rel => exact ⟨j + 1, m, A2, c' - 64, doW h (all.drop (64 * j)), (by first | rfl | (congr 1; omega)), ⟨by have := HK.out; omega⟩, ⟨by have := HJ.out; omega⟩, ⟨by have := HLC2.out; omega⟩, ⟨by rw [← HF.out, show all.drop (64 * (j + 1)) = (all.drop (64 * j)).drop 64 by rw [List.drop_drop]; rfl]; rfl⟩, ⟨fun W b hW => by have h0 := HC6.out W b hW; rw [HL6.out] at h0; exact h0⟩, HA23, HA43, BB3, BA3⟩
    · obtain rfl : m = 0 := by omega
      go_wp2_with (first | ((with_reducible refine gate_dst (N := 27) rfl ?_); refine loadG_event (T := 42) (by rfl) rfl rfl (run_loadVar_row _ _ _ _ _ (0, 0) _ HA4.out Tryd.underlying42 rfl (by kernel_rfl)) ?_))
      have hfold : h = fold64 doW M first5 all := HF.out
      have HFD := Aside0.mk hfold
      clear hfold HF HK HJ HLC2 HC2 HA4 BA
      have HU := Aside0.mk (show wr.heap[g1]? = some (.cells (upd h 0) 23 (0, 0)) from HA2.out)
      clear HA2
      go_loopg [28] 5 (fun n v28 w' => ∃ (i : Nat), v28 = .int .i64 (i : Int) ∧ Aside0 (i + n = 5) ∧ Aside0 (w'.heap[g1]? = some (.cells (upd h i) 23 (0, 0))) ∧ Aside0 (Below w.heap.size w w'))
      case atStart => exact ⟨0, rfl, ⟨rfl⟩, HU, BB⟩
      case round =>
        clear HU BB
        obtain ⟨i, rfl, HK, HU, BB⟩ := hrel
        by_cases hk : i < 5
        · obtain ⟨go, rfl⟩ : ∃ k, gk = k + 1 := ⟨gk - 1, by have := HK.out; omega⟩
          obtain rfl | rfl | rfl | rfl | rfl : i = 0 ∨ i = 1 ∨ i = 2 ∨ i = 3 ∨ i = 4 := by omega
          · simp only [show ((0 : Nat) : Int) = 0 from rfl]
            have HU1 := Aside0.mk (show wr.heap[g1]? = some (.cells #[.int .u8 0, .int .u8 0, .int .u8 0, .int .u8 0, .int .u8 0, .int .u8 0, .int .u8 0, .int .u8 0, .int .u8 0, .int .u8 0, .int .u8 0, .int .u8 0, .int .u8 0, .int .u8 0, .int .u8 0, .int .u8 0, .int .u8 0, .int .u8 0, .int .u8 0, .int .u8 0] 23 (0, 0)) from HU.out)
            clear HU
            have u0 : wr.cell? ⟨g1, 0, none⟩ = some (.int .u8 0) := (blk_cell HU1.out 0).trans rfl
            have f0 := blk_frozen HU1.out 0
            have u1 : wr.cell? ⟨g1, 1, none⟩ = some (.int .u8 0) := (blk_cell HU1.out 1).trans rfl
            have f1 := blk_frozen HU1.out 1
            have u2 : wr.cell? ⟨g1, 2, none⟩ = some (.int .u8 0) := (blk_cell HU1.out 2).trans rfl
            have f2 := blk_frozen HU1.out 2
            have u3 : wr.cell? ⟨g1, 3, none⟩ = some (.int .u8 0) := (blk_cell HU1.out 3).trans rfl
            have f3 := blk_frozen HU1.out 3
            go_wp2_with fail
            have HU2 := Aside0.mk (blk_put (cs' := #[.int .u8 (h.1 / 16777216 % 256), .int .u8 (h.1 / 65536 % 256), .int .u8 (h.1 / 256 % 256), .int .u8 (h.1 % 256), .int .u8 0, .int .u8 0, .int .u8 0, .int .u8 0, .int .u8 0, .int .u8 0, .int .u8 0, .int .u8 0, .int .u8 0, .int .u8 0, .int .u8 0, .int .u8 0, .int .u8 0, .int .u8 0, .int .u8 0, .int .u8 0]) (blk_put (cs' := #[.int .u8 (h.1 / 16777216 % 256), .int .u8 (h.1 / 65536 % 256), .int .u8 (h.1 / 256 % 256), .int .u8 0, .int .u8 0, .int .u8 0, .int .u8 0, .int .u8 0, .int .u8 0, .int .u8 0, .int .u8 0, .int .u8 0, .int .u8 0, .int .u8 0, .int .u8 0, .int .u8 0, .int .u8 0, .int .u8 0, .int .u8 0, .int .u8 0]) (blk_put (cs' := #[.int .u8 (h.1 / 16777216 % 256), .int .u8 (h.1 / 65536 % 256), .int .u8 0, .int .u8 0, .int .u8 0, .int .u8 0, .int .u8 0, .int .u8 0, .int .u8 0, .int .u8 0, .int .u8 0, .int .u8 0, .int .u8 0, .int .u8 0, .int .u8 0, .int .u8 0, .int .u8 0, .int .u8 0, .int .u8 0, .int .u8 0]) (blk_put (cs' := #[.int .u8 (h.1 / 16777216 % 256), .int .u8 0, .int .u8 0, .int .u8 0, .int .u8 0, .int .u8 0, .int .u8 0, .int .u8 0, .int .u8 0, .int .u8 0, .int .u8 0, .int .u8 0, .int .u8 0, .int .u8 0, .int .u8 0, .int .u8 0, .int .u8 0, .int .u8 0, .int .u8 0, .int .u8 0]) HU1.out 0 (.int .u8 (h.1 / 16777216 % 256)) rfl) 1 (.int .u8 (h.1 / 65536 % 256)) rfl) 2 (.int .u8 (h.1 / 256 % 256)) rfl) 3 (.int .u8 (h.1 % 256)) rfl)
            have B2 := Aside0.mk (below_set (j := 3) (v := .int .u8 (h.1 % 256)) (below_set (j := 2) (v := .int .u8 (h.1 / 256 % 256)) (below_set (j := 1) (v := .int .u8 (h.1 / 65536 % 256)) (below_set (j := 0) (v := .int .u8 (h.1 / 16777216 % 256)) BB.out G3) G3) G3) G3)
            go_roundg go
            case measure => have := HK.out; omega
            case rel => exact ⟨1, by go_num, ⟨by have := HK.out; omega⟩, ⟨HU2.out⟩, B2⟩
          · simp only [show ((1 : Nat) : Int) = 1 from rfl]
            have HU1 := Aside0.mk (show wr.heap[g1]? = some (.cells #[.int .u8 (h.1 / 16777216 % 256), .int .u8 (h.1 / 65536 % 256), .int .u8 (h.1 / 256 % 256), .int .u8 (h.1 % 256), .int .u8 0, .int .u8 0, .int .u8 0, .int .u8 0, .int .u8 0, .int .u8 0, .int .u8 0, .int .u8 0, .int .u8 0, .int .u8 0, .int .u8 0, .int .u8 0, .int .u8 0, .int .u8 0, .int .u8 0, .int .u8 0] 23 (0, 0)) from HU.out)
            clear HU
            have u0 : wr.cell? ⟨g1, 4, none⟩ = some (.int .u8 0) := (blk_cell HU1.out 4).trans rfl
            have f0 := blk_frozen HU1.out 4
            have u1 : wr.cell? ⟨g1, 5, none⟩ = some (.int .u8 0) := (blk_cell HU1.out 5).trans rfl
            have f1 := blk_frozen HU1.out 5
            have u2 : wr.cell? ⟨g1, 6, none⟩ = some (.int .u8 0) := (blk_cell HU1.out 6).trans rfl
            have f2 := blk_frozen HU1.out 6
            have u3 : wr.cell? ⟨g1, 7, none⟩ = some (.int .u8 0) := (blk_cell HU1.out 7).trans rfl
            have f3 := blk_frozen HU1.out 7
            go_wp2_with fail
            have HU2 := Aside0.mk (blk_put (cs' := #[.int .u8 (h.1 / 16777216 % 256), .int .u8 (h.1 / 65536 % 256), .int .u8 (h.1 / 256 % 256), .int .u8 (h.1 % 256), .int .u8 (h.2.1 / 16777216 % 256), .int .u8 (h.2.1 / 65536 % 256), .int .u8 (h.2.1 / 256 % 256), .int .u8 (h.2.1 % 256), .int .u8 0, .int .u8 0, .int .u8 0, .int .u8 0, .int .u8 0, .int .u8 0, .int .u8 0, .int .u8 0, .int .u8 0, .int .u8 0, .int .u8 0, .int .u8 0]) (blk_put (cs' := #[.int .u8 (h.1 / 16777216 % 256), .int .u8 (h.1 / 65536 % 256), .int .u8 (h.1 / 256 % 256), .int .u8 (h.1 % 256), .int .u8 (h.2.1 / 16777216 % 256), .int .u8 (h.2.1 / 65536 % 256), .int .u8 (h.2.1 / 256 % 256), .int .u8 0, .int .u8 0, .int .u8 0, .int .u8 0, .int .u8 0, .int .u8 0, .int .u8 0, .int .u8 0, .int .u8 0, .int .u8 0, .int .u8 0, .int .u8 0, .int .u8 0]) (blk_put (cs' := #[.int .u8 (h.1 / 16777216 % 256), .int .u8 (h.1 / 65536 % 256), .int .u8 (h.1 / 256 % 256), .int .u8 (h.1 % 256), .int .u8 (h.2.1 / 16777216 % 256), .int .u8 (h.2.1 / 65536 % 256), .int .u8 0, .int .u8 0, .int .u8 0, .int .u8 0, .int .u8 0, .int .u8 0, .int .u8 0, .int .u8 0, .int .u8 0, .int .u8 0, .int .u8 0, .int .u8 0, .int .u8 0, .int .u8 0]) (blk_put (cs' := #[.int .u8 (h.1 / 16777216 % 256), .int .u8 (h.1 / 65536 % 256), .int .u8 (h.1 / 256 % 256), .int .u8 (h.1 % 256), .int .u8 (h.2.1 / 16777216 % 256), .int .u8 0, .int .u8 0, .int .u8 0, .int .u8 0, .int .u8 0, .int .u8 0, .int .u8 0, .int .u8 0, .int .u8 0, .int .u8 0, .int .u8 0, .int .u8 0, .int .u8 0, .int .u8 0, .int .u8 0]) HU1.out 4 (.int .u8 (h.2.1 / 16777216 % 256)) rfl) 5 (.int .u8 (h.2.1 / 65536 % 256)) rfl) 6 (.int .u8 (h.2.1 / 256 % 256)) rfl) 7 (.int .u8 (h.2.1 % 256)) rfl)
            have B2 := Aside0.mk (below_set (j := 7) (v := .int .u8 (h.2.1 % 256)) (below_set (j := 6) (v := .int .u8 (h.2.1 / 256 % 256)) (below_set (j := 5) (v := .int .u8 (h.2.1 / 65536 % 256)) (below_set (j := 4) (v := .int .u8 (h.2.1 / 16777216 % 256)) BB.out G3) G3) G3) G3)
            go_roundg go
            case measure => have := HK.out; omega
            case rel => exact ⟨2, by go_num, ⟨by have := HK.out; omega⟩, ⟨HU2.out⟩, B2⟩
          · simp only [show ((2 : Nat) : Int) = 2 from rfl]
            have HU1 := Aside0.mk (show wr.heap[g1]? = some (.cells #[.int .u8 (h.1 / 16777216 % 256), .int .u8 (h.1 / 65536 % 256), .int .u8 (h.1 / 256 % 256), .int .u8 (h.1 % 256), .int .u8 (h.2.1 / 16777216 % 256), .int .u8 (h.2.1 / 65536 % 256), .int .u8 (h.2.1 / 256 % 256), .int .u8 (h.2.1 % 256), .int .u8 0, .int .u8 0, .int .u8 0, .int .u8 0, .int .u8 0, .int .u8 0, .int .u8 0, .int .u8 0, .int .u8 0, .int .u8 0, .int .u8 0, .int .u8 0] 23 (0, 0)) from HU.out)
            clear HU
            have u0 : wr.cell? ⟨g1, 8, none⟩ = some (.int .u8 0) := (blk_cell HU1.out 8).trans rfl
            have f0 := blk_frozen HU1.out 8
            have u1 : wr.cell? ⟨g1, 9, none⟩ = some (.int .u8 0) := (blk_cell HU1.out 9).trans rfl
            have f1 := blk_frozen HU1.out 9
            have u2 : wr.cell? ⟨g1, 10, none⟩ = some (.int .u8 0) := (blk_cell HU1.out 10).trans rfl
            have f2 := blk_frozen HU1.out 10
            have u3 : wr.cell? ⟨g1, 11, none⟩ = some (.int .u8 0) := (blk_cell HU1.out 11).trans rfl
            have f3 := blk_frozen HU1.out 11
            go_wp2_with fail
            have HU2 := Aside0.mk (blk_put (cs' := #[.int .u8 (h.1 / 16777216 % 256), .int .u8 (h.1 / 65536 % 256), .int .u8 (h.1 / 256 % 256), .int .u8 (h.1 % 256), .int .u8 (h.2.1 / 16777216 % 256), .int .u8 (h.2.1 / 65536 % 256), .int .u8 (h.2.1 / 256 % 256), .int .u8 (h.2.1 % 256), .int .u8 (h.2.2.1 / 16777216 % 256), .int .u8 (h.2.2.1 / 65536 % 256), .int .u8 (h.2.2.1 / 256 % 256), .int .u8 (h.2.2.1 % 256), .int .u8 0, .int .u8 0, .int .u8 0, .int .u8 0, .int .u8 0, .int .u8 0, .int .u8 0, .int .u8 0]) (blk_put (cs' := #[.int .u8 (h.1 / 16777216 % 256), .int .u8 (h.1 / 65536 % 256), .int .u8 (h.1 / 256 % 256), .int .u8 (h.1 % 256), .int .u8 (h.2.1 / 16777216 % 256), .int .u8 (h.2.1 / 65536 % 256), .int .u8 (h.2.1 / 256 % 256), .int .u8 (h.2.1 % 256), .int .u8 (h.2.2.1 / 16777216 % 256), .int .u8 (h.2.2.1 / 65536 % 256), .int .u8 (h.2.2.1 / 256 % 256), .int .u8 0, .int .u8 0, .int .u8 0, .int .u8 0, .int .u8 0, .int .u8 0, .int .u8 0, .int .u8 0, .int .u8 0]) (blk_put (cs' := #[.int .u8 (h.1 / 16777216 % 256), .int .u8 (h.1 / 65536 % 256), .int .u8 (h.1 / 256 % 256), .int .u8 (h.1 % 256), .int .u8 (h.2.1 / 16777216 % 256), .int .u8 (h.2.1 / 65536 % 256), .int .u8 (h.2.1 / 256 % 256), .int .u8 (h.2.1 % 256), .int .u8 (h.2.2.1 / 16777216 % 256), .int .u8 (h.2.2.1 / 65536 % 256), .int .u8 0, .int .u8 0, .int .u8 0, .int .u8 0, .int .u8 0, .int .u8 0, .int .u8 0, .int .u8 0, .int .u8 0, .int .u8 0]) (blk_put (cs' := #[.int .u8 (h.1 / 16777216 % 256), .int .u8 (h.1 / 65536 % 256), .int .u8 (h.1 / 256 % 256), .int .u8 (h.1 % 256), .int .u8 (h.2.1 / 16777216 % 256), .int .u8 (h.2.1 / 65536 % 256), .int .u8 (h.2.1 / 256 % 256), .int .u8 (h.2.1 % 256), .int .u8 (h.2.2.1 / 16777216 % 256), .int .u8 0, .int .u8 0, .int .u8 0, .int .u8 0, .int .u8 0, .int .u8 0, .int .u8 0, .int .u8 0, .int .u8 0, .int .u8 0, .int .u8 0]) HU1.out 8 (.int .u8 (h.2.2.1 / 16777216 % 256)) rfl) 9 (.int .u8 (h.2.2.1 / 65536 % 256)) rfl) 10 (.int .u8 (h.2.2.1 / 256 % 256)) rfl) 11 (.int .u8 (h.2.2.1 % 256)) rfl)
            have B2 := Aside0.mk (below_set (j := 11) (v := .int .u8 (h.2.2.1 % 256)) (below_set (j := 10) (v := .int .u8 (h.2.2.1 / 256 % 256)) (below_set (j := 9) (v := .int .u8 (h.2.2.1 / 65536 % 256)) (below_set (j := 8) (v := .int .u8 (h.2.2.1 / 16777216 % 256)) BB.out G3) G3) G3) G3)
            go_roundg go
            case measure => have := HK.out; omega
            case rel => exact ⟨3, by go_num, ⟨by have := HK.out; omega⟩, ⟨HU2.out⟩, B2⟩
          · simp only [show ((3 : Nat) : Int) = 3 from rfl]
            have HU1 := Aside0.mk (show wr.heap[g1]? = some (.cells #[.int .u8 (h.1 / 16777216 % 256), .int .u8 (h.1 / 65536 % 256), .int .u8 (h.1 / 256 % 256), .int .u8 (h.1 % 256), .int .u8 (h.2.1 / 16777216 % 256), .int .u8 (h.2.1 / 65536 % 256), .int .u8 (h.2.1 / 256 % 256), .int .u8 (h.2.1 % 256), .int .u8 (h.2.2.1 / 16777216 % 256), .int .u8 (h.2.2.1 / 65536 % 256), .int .u8 (h.2.2.1 / 256 % 256), .int .u8 (h.2.2.1 % 256), .int .u8 0, .int .u8 0, .int .u8 0, .int .u8 0, .int .u8 0, .int .u8 0, .int .u8 0, .int .u8 0] 23 (0, 0)) from HU.out)
            clear HU
            have u0 : wr.cell? ⟨g1, 12, none⟩ = some (.int .u8 0) := (blk_cell HU1.out 12).trans rfl
            have f0 := blk_frozen HU1.out 12
            have u1 : wr.cell? ⟨g1, 13, none⟩ = some (.int .u8 0) := (blk_cell HU1.out 13).trans rfl
            have f1 := blk_frozen HU1.out 13
            have u2 : wr.cell? ⟨g1, 14, none⟩ = some (.int .u8 0) := (blk_cell HU1.out 14).trans rfl
            have f2 := blk_frozen HU1.out 14
            have u3 : wr.cell? ⟨g1, 15, none⟩ = some (.int .u8 0) := (blk_cell HU1.out 15).trans rfl
            have f3 := blk_frozen HU1.out 15
            go_wp2_with fail
            have HU2 := Aside0.mk (blk_put (cs' := #[.int .u8 (h.1 / 16777216 % 256), .int .u8 (h.1 / 65536 % 256), .int .u8 (h.1 / 256 % 256), .int .u8 (h.1 % 256), .int .u8 (h.2.1 / 16777216 % 256), .int .u8 (h.2.1 / 65536 % 256), .int .u8 (h.2.1 / 256 % 256), .int .u8 (h.2.1 % 256), .int .u8 (h.2.2.1 / 16777216 % 256), .int .u8 (h.2.2.1 / 65536 % 256), .int .u8 (h.2.2.1 / 256 % 256), .int .u8 (h.2.2.1 % 256), .int .u8 (h.2.2.2.1 / 16777216 % 256), .int .u8 (h.2.2.2.1 / 65536 % 256), .int .u8 (h.2.2.2.1 / 256 % 256), .int .u8 (h.2.2.2.1 % 256), .int .u8 0, .int .u8 0, .int .u8 0, .int .u8 0]) (blk_put (cs' := #[.int .u8 (h.1 / 16777216 % 256), .int .u8 (h.1 / 65536 % 256), .int .u8 (h.1 / 256 % 256), .int .u8 (h.1 % 256), .int .u8 (h.2.1 / 16777216 % 256), .int .u8 (h.2.1 / 65536 % 256), .int .u8 (h.2.1 / 256 % 256), .int .u8 (h.2.1 % 256), .int .u8 (h.2.2.1 / 16777216 % 256), .int .u8 (h.2.2.1 / 65536 % 256), .int .u8 (h.2.2.1 / 256 % 256), .int .u8 (h.2.2.1 % 256), .int .u8 (h.2.2.2.1 / 16777216 % 256), .int .u8 (h.2.2.2.1 / 65536 % 256), .int .u8 (h.2.2.2.1 / 256 % 256), .int .u8 0, .int .u8 0, .int .u8 0, .int .u8 0, .int .u8 0]) (blk_put (cs' := #[.int .u8 (h.1 / 16777216 % 256), .int .u8 (h.1 / 65536 % 256), .int .u8 (h.1 / 256 % 256), .int .u8 (h.1 % 256), .int .u8 (h.2.1 / 16777216 % 256), .int .u8 (h.2.1 / 65536 % 256), .int .u8 (h.2.1 / 256 % 256), .int .u8 (h.2.1 % 256), .int .u8 (h.2.2.1 / 16777216 % 256), .int .u8 (h.2.2.1 / 65536 % 256), .int .u8 (h.2.2.1 / 256 % 256), .int .u8 (h.2.2.1 % 256), .int .u8 (h.2.2.2.1 / 16777216 % 256), .int .u8 (h.2.2.2.1 / 65536 % 256), .int .u8 0, .int .u8 0, .int .u8 0, .int .u8 0, .int .u8 0, .int .u8 0]) (blk_put (cs' := #[.int .u8 (h.1 / 16777216 % 256), .int .u8 (h.1 / 65536 % 256), .int .u8 (h.1 / 256 % 256), .int .u8 (h.1 % 256), .int .u8 (h.2.1 / 16777216 % 256), .int .u8 (h.2.1 / 65536 % 256), .int .u8 (h.2.1 / 256 % 256), .int .u8 (h.2.1 % 256), .int .u8 (h.2.2.1 / 16777216 % 256), .int .u8 (h.2.2.1 / 65536 % 256), .int .u8 (h.2.2.1 / 256 % 256), .int .u8 (h.2.2.1 % 256), .int .u8 (h.2.2.2.1 / 16777216 % 256), .int .u8 0, .int .u8 0, .int .u8 0, .int .u8 0, .int .u8 0, .int .u8 0, .int .u8 0]) HU1.out 12 (.int .u8 (h.2.2.2.1 / 16777216 % 256)) rfl) 13 (.int .u8 (h.2.2.2.1 / 65536 % 256)) rfl) 14 (.int .u8 (h.2.2.2.1 / 256 % 256)) rfl) 15 (.int .u8 (h.2.2.2.1 % 256)) rfl)
            have B2 := Aside0.mk (below_set (j := 15) (v := .int .u8 (h.2.2.2.1 % 256)) (below_set (j := 14) (v := .int .u8 (h.2.2.2.1 / 256 % 256)) (below_set (j := 13) (v := .int .u8 (h.2.2.2.1 / 65536 % 256)) (below_set (j := 12) (v := .int .u8 (h.2.2.2.1 / 16777216 % 256)) BB.out G3) G3) G3) G3)
            go_roundg go
            case measure => have := HK.out; omega
            case rel => exact ⟨4, by go_num, ⟨by have := HK.out; omega⟩, ⟨HU2.out⟩, B2⟩
          · simp only [show ((4 : Nat) : Int) = 4 from rfl]
            have HU1 := Aside0.mk (show wr.heap[g1]? = some (.cells #[.int .u8 (h.1 / 16777216 % 256), .int .u8 (h.1 / 65536 % 256), .int .u8 (h.1 / 256 % 256), .int .u8 (h.1 % 256), .int .u8 (h.2.1 / 16777216 % 256), .int .u8 (h.2.1 / 65536 % 256), .int .u8 (h.2.1 / 256 % 256), .int .u8 (h.2.1 % 256), .int .u8 (h.2.2.1 / 16777216 % 256), .int .u8 (h.2.2.1 / 65536 % 256), .int .u8 (h.2.2.1 / 256 % 256), .int .u8 (h.2.2.1 % 256), .int .u8 (h.2.2.2.1 / 16777216 % 256), .int .u8 (h.2.2.2.1 / 65536 % 256), .int .u8 (h.2.2.2.1 / 256 % 256), .int .u8 (h.2.2.2.1 % 256), .int .u8 0, .int .u8 0, .int .u8 0, .int .u8 0] 23 (0, 0)) from HU.out)
            clear HU
            have u0 : wr.cell? ⟨g1, 16, none⟩ = some (.int .u8 0) := (blk_cell HU1.out 16).trans rfl
            have f0 := blk_frozen HU1.out 16
            have u1 : wr.cell? ⟨g1, 17, none⟩ = some (.int .u8 0) := (blk_cell HU1.out 17).trans rfl
            have f1 := blk_frozen HU1.out 17
            have u2 : wr.cell? ⟨g1, 18, none⟩ = some (.int .u8 0) := (blk_cell HU1.out 18).trans rfl
            have f2 := blk_frozen HU1.out 18
            have u3 : wr.cell? ⟨g1, 19, none⟩ = some (.int .u8 0) := (blk_cell HU1.out 19).trans rfl
            have f3 := blk_frozen HU1.out 19
            go_wp2_with fail
            have HU2 := Aside0.mk (blk_put (cs' := #[.int .u8 (h.1 / 16777216 % 256), .int .u8 (h.1 / 65536 % 256), .int .u8 (h.1 / 256 % 256), .int .u8 (h.1 % 256), .int .u8 (h.2.1 / 16777216 % 256), .int .u8 (h.2.1 / 65536 % 256), .int .u8 (h.2.1 / 256 % 256), .int .u8 (h.2.1 % 256), .int .u8 (h.2.2.1 / 16777216 % 256), .int .u8 (h.2.2.1 / 65536 % 256), .int .u8 (h.2.2.1 / 256 % 256), .int .u8 (h.2.2.1 % 256), .int .u8 (h.2.2.2.1 / 16777216 % 256), .int .u8 (h.2.2.2.1 / 65536 % 256), .int .u8 (h.2.2.2.1 / 256 % 256), .int .u8 (h.2.2.2.1 % 256), .int .u8 (h.2.2.2.2 / 16777216 % 256), .int .u8 (h.2.2.2.2 / 65536 % 256), .int .u8 (h.2.2.2.2 / 256 % 256), .int .u8 (h.2.2.2.2 % 256)]) (blk_put (cs' := #[.int .u8 (h.1 / 16777216 % 256), .int .u8 (h.1 / 65536 % 256), .int .u8 (h.1 / 256 % 256), .int .u8 (h.1 % 256), .int .u8 (h.2.1 / 16777216 % 256), .int .u8 (h.2.1 / 65536 % 256), .int .u8 (h.2.1 / 256 % 256), .int .u8 (h.2.1 % 256), .int .u8 (h.2.2.1 / 16777216 % 256), .int .u8 (h.2.2.1 / 65536 % 256), .int .u8 (h.2.2.1 / 256 % 256), .int .u8 (h.2.2.1 % 256), .int .u8 (h.2.2.2.1 / 16777216 % 256), .int .u8 (h.2.2.2.1 / 65536 % 256), .int .u8 (h.2.2.2.1 / 256 % 256), .int .u8 (h.2.2.2.1 % 256), .int .u8 (h.2.2.2.2 / 16777216 % 256), .int .u8 (h.2.2.2.2 / 65536 % 256), .int .u8 (h.2.2.2.2 / 256 % 256), .int .u8 0]) (blk_put (cs' := #[.int .u8 (h.1 / 16777216 % 256), .int .u8 (h.1 / 65536 % 256), .int .u8 (h.1 / 256 % 256), .int .u8 (h.1 % 256), .int .u8 (h.2.1 / 16777216 % 256), .int .u8 (h.2.1 / 65536 % 256), .int .u8 (h.2.1 / 256 % 256), .int .u8 (h.2.1 % 256), .int .u8 (h.2.2.1 / 16777216 % 256), .int .u8 (h.2.2.1 / 65536 % 256), .int .u8 (h.2.2.1 / 256 % 256), .int .u8 (h.2.2.1 % 256), .int .u8 (h.2.2.2.1 / 16777216 % 256), .int .u8 (h.2.2.2.1 / 65536 % 256), .int .u8 (h.2.2.2.1 / 256 % 256), .int .u8 (h.2.2.2.1 % 256), .int .u8 (h.2.2.2.2 / 16777216 % 256), .int .u8 (h.2.2.2.2 / 65536 % 256), .int .u8 0, .int .u8 0]) (blk_put (cs' := #[.int .u8 (h.1 / 16777216 % 256), .int .u8 (h.1 / 65536 % 256), .int .u8 (h.1 / 256 % 256), .int .u8 (h.1 % 256), .int .u8 (h.2.1 / 16777216 % 256), .int .u8 (h.2.1 / 65536 % 256), .int .u8 (h.2.1 / 256 % 256), .int .u8 (h.2.1 % 256), .int .u8 (h.2.2.1 / 16777216 % 256), .int .u8 (h.2.2.1 / 65536 % 256), .int .u8 (h.2.2.1 / 256 % 256), .int .u8 (h.2.2.1 % 256), .int .u8 (h.2.2.2.1 / 16777216 % 256), .int .u8 (h.2.2.2.1 / 65536 % 256), .int .u8 (h.2.2.2.1 / 256 % 256), .int .u8 (h.2.2.2.1 % 256), .int .u8 (h.2.2.2.2 / 16777216 % 256), .int .u8 0, .int .u8 0, .int .u8 0]) HU1.out 16 (.int .u8 (h.2.2.2.2 / 16777216 % 256)) rfl) 17 (.int .u8 (h.2.2.2.2 / 65536 % 256)) rfl) 18 (.int .u8 (h.2.2.2.2 / 256 % 256)) rfl) 19 (.int .u8 (h.2.2.2.2 % 256)) rfl)
            have B2 := Aside0.mk (below_set (j := 19) (v := .int .u8 (h.2.2.2.2 % 256)) (below_set (j := 18) (v := .int .u8 (h.2.2.2.2 / 256 % 256)) (below_set (j := 17) (v := .int .u8 (h.2.2.2.2 / 65536 % 256)) (below_set (j := 16) (v := .int .u8 (h.2.2.2.2 / 16777216 % 256)) BB.out G3) G3) G3) G3)
            go_roundg go
            case measure => have := HK.out; omega
            case rel => exact ⟨5, by go_num, ⟨by have := HK.out; omega⟩, ⟨HU2.out⟩, B2⟩
        · obtain rfl : i = 5 := by have := HK.out; omega
          simp only [show ((5 : Nat) : Int) = 5 from rfl]
          have HU5 := Aside0.mk (show wr.heap[g1]? = some (.cells #[.int .u8 (h.1 / 16777216 % 256), .int .u8 (h.1 / 65536 % 256), .int .u8 (h.1 / 256 % 256), .int .u8 (h.1 % 256), .int .u8 (h.2.1 / 16777216 % 256), .int .u8 (h.2.1 / 65536 % 256), .int .u8 (h.2.1 / 256 % 256), .int .u8 (h.2.1 % 256), .int .u8 (h.2.2.1 / 16777216 % 256), .int .u8 (h.2.2.1 / 65536 % 256), .int .u8 (h.2.2.1 / 256 % 256), .int .u8 (h.2.2.1 % 256), .int .u8 (h.2.2.2.1 / 16777216 % 256), .int .u8 (h.2.2.2.1 / 65536 % 256), .int .u8 (h.2.2.2.1 / 256 % 256), .int .u8 (h.2.2.2.1 % 256), .int .u8 (h.2.2.2.2 / 16777216 % 256), .int .u8 (h.2.2.2.2 / 65536 % 256), .int .u8 (h.2.2.2.2 / 256 % 256), .int .u8 (h.2.2.2.2 % 256)] 23 (0, 0)) from HU.out)
          clear HU
          go_wp2_with (first | ((with_reducible refine gate_dst (N := 59) rfl ?_); refine loadG_event (T := 23) (by rfl) rfl rfl (run_loadVar_row _ _ _ _ _ (0, 0) _ HU5.out Tryd.underlying23 rfl (by kernel_rfl)) ?_) | ((with_reducible refine gate_store (t := 23) (p := _) rfl ?_); refine storeN_event (T := 23) rfl rfl rfl rfl rfl (storeVar_blk HU5.out 23 0 [.int .u8 (h.1 / 16777216 % 256), .int .u8 (h.1 / 65536 % 256), .int .u8 (h.1 / 256 % 256), .int .u8 (h.1 % 256), .int .u8 (h.2.1 / 16777216 % 256), .int .u8 (h.2.1 / 65536 % 256), .int .u8 (h.2.1 / 256 % 256), .int .u8 (h.2.1 % 256), .int .u8 (h.2.2.1 / 16777216 % 256), .int .u8 (h.2.2.1 / 65536 % 256), .int .u8 (h.2.2.1 / 256 % 256), .int .u8 (h.2.2.1 % 256), .int .u8 (h.2.2.2.1 / 16777216 % 256), .int .u8 (h.2.2.2.1 / 65536 % 256), .int .u8 (h.2.2.2.1 / 256 % 256), .int .u8 (h.2.2.2.1 % 256), .int .u8 (h.2.2.2.2 / 16777216 % 256), .int .u8 (h.2.2.2.2 / 65536 % 256), .int .u8 (h.2.2.2.2 / 256 % 256), .int .u8 (h.2.2.2.2 % 256)] (by kernel_rfl) rfl (by simp)) ?_; have HA10 := Aside0.mk (show (World.setCells wr g1 0 [.int .u8 (h.1 / 16777216 % 256), .int .u8 (h.1 / 65536 % 256), .int .u8 (h.1 / 256 % 256), .int .u8 (h.1 % 256), .int .u8 (h.2.1 / 16777216 % 256), .int .u8 (h.2.1 / 65536 % 256), .int .u8 (h.2.1 / 256 % 256), .int .u8 (h.2.1 % 256), .int .u8 (h.2.2.1 / 16777216 % 256), .int .u8 (h.2.2.1 / 65536 % 256), .int .u8 (h.2.2.1 / 256 % 256), .int .u8 (h.2.2.1 % 256), .int .u8 (h.2.2.2.1 / 16777216 % 256), .int .u8 (h.2.2.2.1 / 65536 % 256), .int .u8 (h.2.2.2.1 / 256 % 256), .int .u8 (h.2.2.2.1 % 256), .int .u8 (h.2.2.2.2 / 16777216 % 256), .int .u8 (h.2.2.2.2 / 65536 % 256), .int .u8 (h.2.2.2.2 / 256 % 256), .int .u8 (h.2.2.2.2 % 256)]).heap[g1]? = some (.cells #[.int .u8 (h.1 / 16777216 % 256), .int .u8 (h.1 / 65536 % 256), .int .u8 (h.1 / 256 % 256), .int .u8 (h.1 % 256), .int .u8 (h.2.1 / 16777216 % 256), .int .u8 (h.2.1 / 65536 % 256), .int .u8 (h.2.1 / 256 % 256), .int .u8 (h.2.1 % 256), .int .u8 (h.2.2.1 / 16777216 % 256), .int .u8 (h.2.2.1 / 65536 % 256), .int .u8 (h.2.2.1 / 256 % 256), .int .u8 (h.2.2.1 % 256), .int .u8 (h.2.2.2.1 / 16777216 % 256), .int .u8 (h.2.2.2.1 / 65536 % 256), .int .u8 (h.2.2.2.1 / 256 % 256), .int .u8 (h.2.2.2.1 % 256), .int .u8 (h.2.2.2.2 / 16777216 % 256), .int .u8 (h.2.2.2.2 / 65536 % 256), .int .u8 (h.2.2.2.2 / 256 % 256), .int .u8 (h.2.2.2.2 % 256)] 23 (0, 0)) from blk_setCells [] [.int .u8 (h.1 / 16777216 % 256), .int .u8 (h.1 / 65536 % 256), .int .u8 (h.1 / 256 % 256), .int .u8 (h.1 % 256), .int .u8 (h.2.1 / 16777216 % 256), .int .u8 (h.2.1 / 65536 % 256), .int .u8 (h.2.1 / 256 % 256), .int .u8 (h.2.1 % 256), .int .u8 (h.2.2.1 / 16777216 % 256), .int .u8 (h.2.2.1 / 65536 % 256), .int .u8 (h.2.2.1 / 256 % 256), .int .u8 (h.2.2.1 % 256), .int .u8 (h.2.2.2.1 / 16777216 % 256), .int .u8 (h.2.2.2.1 / 65536 % 256), .int .u8 (h.2.2.2.1 / 256 % 256), .int .u8 (h.2.2.2.1 % 256), .int .u8 (h.2.2.2.2 / 16777216 % 256), .int .u8 (h.2.2.2.2 / 65536 % 256), .int .u8 (h.2.2.2.2 / 256 % 256), .int .u8 (h.2.2.2.2 % 256)] [.int .u8 (h.1 / 16777216 % 256), .int .u8 (h.1 / 65536 % 256), .int .u8 (h.1 / 256 % 256), .int .u8 (h.1 % 256), .int .u8 (h.2.1 / 16777216 % 256), .int .u8 (h.2.1 / 65536 % 256), .int .u8 (h.2.1 / 256 % 256), .int .u8 (h.2.1 % 256), .int .u8 (h.2.2.1 / 16777216 % 256), .int .u8 (h.2.2.1 / 65536 % 256), .int .u8 (h.2.2.1 / 256 % 256), .int .u8 (h.2.2.1 % 256), .int .u8 (h.2.2.2.1 / 16777216 % 256), .int .u8 (h.2.2.2.1 / 65536 % 256), .int .u8 (h.2.2.2.1 / 256 % 256), .int .u8 (h.2.2.2.1 % 256), .int .u8 (h.2.2.2.2 / 16777216 % 256), .int .u8 (h.2.2.2.2 / 65536 % 256), .int .u8 (h.2.2.2.2 / 256 % 256), .int .u8 (h.2.2.2.2 % 256)] [] wr rfl HU5.out); have B10 := Aside0.mk (below_setCells G3 [.int .u8 (h.1 / 16777216 % 256), .int .u8 (h.1 / 65536 % 256), .int .u8 (h.1 / 256 % 256), .int .u8 (h.1 % 256), .int .u8 (h.2.1 / 16777216 % 256), .int .u8 (h.2.1 / 65536 % 256), .int .u8 (h.2.1 / 256 % 256), .int .u8 (h.2.1 % 256), .int .u8 (h.2.2.1 / 16777216 % 256), .int .u8 (h.2.2.1 / 65536 % 256), .int .u8 (h.2.2.1 / 256 % 256), .int .u8 (h.2.2.1 % 256), .int .u8 (h.2.2.2.1 / 16777216 % 256), .int .u8 (h.2.2.2.1 / 65536 % 256), .int .u8 (h.2.2.2.1 / 256 % 256), .int .u8 (h.2.2.2.1 % 256), .int .u8 (h.2.2.2.2 / 16777216 % 256), .int .u8 (h.2.2.2.2 / 65536 % 256), .int .u8 (h.2.2.2.2 / 256 % 256), .int .u8 (h.2.2.2.2 % 256)] 0 wr BB.out)))
          rw [← HFD.out]
          exact bodyPost_ret (results_ct rfl _ _ g1 23 #[.int .u8 (h.1 / 16777216 % 256), .int .u8 (h.1 / 65536 % 256), .int .u8 (h.1 / 256 % 256), .int .u8 (h.1 % 256), .int .u8 (h.2.1 / 16777216 % 256), .int .u8 (h.2.1 / 65536 % 256), .int .u8 (h.2.1 / 256 % 256), .int .u8 (h.2.1 % 256), .int .u8 (h.2.2.1 / 16777216 % 256), .int .u8 (h.2.2.1 / 65536 % 256), .int .u8 (h.2.2.1 / 256 % 256), .int .u8 (h.2.2.1 % 256), .int .u8 (h.2.2.2.1 / 16777216 % 256), .int .u8 (h.2.2.2.1 / 65536 % 256), .int .u8 (h.2.2.2.1 / 256 % 256), .int .u8 (h.2.2.2.1 % 256), .int .u8 (h.2.2.2.2 / 16777216 % 256), .int .u8 (h.2.2.2.2 / 65536 % 256), .int .u8 (h.2.2.2.2 / 256 % 256), .int .u8 (h.2.2.2.2 % 256)] (0, 0) _ rfl HA10.out Tryd.underlying23 rfl (by kernel_rfl)) rfl ⟨rfl, B10.out⟩
end Go.Proofs.YtbldecdipicddaaDoor.Hand
