/- The reference's Of. Written by wip/s1/mkof.py. -/
import Derived.Test.YtbldecdipicddaaDoorHSum
import Derived.Test.YtbldecdipicddaaDoorHDone
set_option linter.unusedSimpArgs false
set_option linter.unusedVariables false
namespace Go.Proofs.YtbldecdipicddaaDoor.Hand
open Go Go.RowKit Go.Proofs.YtbldecdipicddaaDoorW.PrintWords Go.Proofs.YtbldecdipicddaaDoorW.PrintLast
def doneW (h : W5) (l : List Int) : W5 := doneF h.1 h.2.1 h.2.2.1 h.2.2.2.1 h.2.2.2.2 l
theorem cut64 (ra M ca at_ : Nat) (h : at_ + 64 ≤ 64 * M) (hM : M < 100000) (hla : 64 * M ≤ ca) : ∃ ad6 : Addr, (∀ W : World, (Instr.slice 26 (.slice (some ⟨ra, 0, none⟩) (64 * M) ca) (some (.int .i64 (at_ : Int))) (some (.int .i64 (wrap64 ((at_ : Int) + 64)))) none).run Tryd.prog W = .ok (.slice (some ad6) 64 (ca - at_)) W) ∧
    ∀ (W : World) (b : Nat) (all : List Int), all.length = 64 * M → Kd.R (Kd.int .u8) 5 W b (fun _ => True) (.slice (some ⟨ra, 0, none⟩) (64 * M) ca) all → Kd.C (Kd.int .u8) W (some ad6) 64 ((all.drop at_).take 64) := by
  obtain ⟨i0, hi0, _, hsz, _⟩ := info_parts info5p
  obtain ⟨ad6, hA6⟩ : ∃ ad6 : Addr, (if ca = at_ then (some ⟨ra, 0, none⟩ : Option Addr) else (some ⟨ra, 0, none⟩ : Option Addr).map (·.add (at_ * 1))) = some ad6 := by split <;> exact ⟨_, rfl⟩
  refine ⟨ad6, fun W => ?_, fun W b all hl hW => ?_⟩
  · have ew : wrap64 ((at_ : Int) + 64) = ((at_ + 64 : Nat) : Int) := by unfold wrap64; omega
    rw [ew, ← hA6]
    have := cut_mid (P := Tryd.prog) 26 5 .i64 .i64 Tryd.underlying26 hi0 1 hsz (some ⟨ra, 0, none⟩) (64 * M) ca (at_ : Int) ((at_ + 64 : Nat) : Int) (by omega) (by omega) (by omega) hla W
    rw [Int.toNat_natCast, Int.toNat_natCast, show at_ + 64 - at_ = 64 by omega] at this
    exact this
  · have h0 := (Kd.R_reads' hW).2.2
    have h1 := Kd.C_drop (m := at_) (c := ca) h0 (by rw [hl]; omega) (by rw [hl]; omega)
    rw [show (if ca = at_ then (some ⟨ra, 0, none⟩ : Option Addr) else (some ⟨ra, 0, none⟩ : Option Addr).map (·.add (at_ * (Kd.int IntKind.u8).sz))) = some ad6 from hA6] at h1
    exact Kd.C_take' h1 rfl (by rw [List.length_drop, hl]; omega)
theorem bd64 (at_ M : Nat) (h : at_ + 64 ≤ 64 * M ∧ M < 100000) : at_ ≤ 6400000 := by omega
theorem len64 (all : List Int) (at_ M : Nat) (hl : all.length = 64 * M) (h : at_ + 64 ≤ 64 * M) : ((all.drop at_).take 64).length = 64 := by rw [List.length_take, List.length_drop, hl]; omega
/-- So many blocks, each cut out. -/
def fold64b (F : W5 → List Int → W5) : Nat → W5 → List Int → W5
  | 0, h, _ => h
  | m + 1, h, l => fold64b F m (F h (l.take 64)) (l.drop 64)
def upd1 (h : W5) : Nat → Array Value
  | 0 => #[.int .u8 0, .int .u8 0, .int .u8 0, .int .u8 0, .int .u8 0, .int .u8 0, .int .u8 0, .int .u8 0, .int .u8 0, .int .u8 0, .int .u8 0, .int .u8 0, .int .u8 0, .int .u8 0, .int .u8 0, .int .u8 0, .int .u8 0, .int .u8 0, .int .u8 0, .int .u8 0]
  | 1 => #[.int .u8 (h.1 / 16777216 % 256), .int .u8 0, .int .u8 0, .int .u8 0, .int .u8 0, .int .u8 0, .int .u8 0, .int .u8 0, .int .u8 0, .int .u8 0, .int .u8 0, .int .u8 0, .int .u8 0, .int .u8 0, .int .u8 0, .int .u8 0, .int .u8 0, .int .u8 0, .int .u8 0, .int .u8 0]
  | 2 => #[.int .u8 (h.1 / 16777216 % 256), .int .u8 (h.1 / 65536 % 256), .int .u8 0, .int .u8 0, .int .u8 0, .int .u8 0, .int .u8 0, .int .u8 0, .int .u8 0, .int .u8 0, .int .u8 0, .int .u8 0, .int .u8 0, .int .u8 0, .int .u8 0, .int .u8 0, .int .u8 0, .int .u8 0, .int .u8 0, .int .u8 0]
  | 3 => #[.int .u8 (h.1 / 16777216 % 256), .int .u8 (h.1 / 65536 % 256), .int .u8 (h.1 / 256 % 256), .int .u8 0, .int .u8 0, .int .u8 0, .int .u8 0, .int .u8 0, .int .u8 0, .int .u8 0, .int .u8 0, .int .u8 0, .int .u8 0, .int .u8 0, .int .u8 0, .int .u8 0, .int .u8 0, .int .u8 0, .int .u8 0, .int .u8 0]
  | 4 => #[.int .u8 (h.1 / 16777216 % 256), .int .u8 (h.1 / 65536 % 256), .int .u8 (h.1 / 256 % 256), .int .u8 (h.1 % 256), .int .u8 0, .int .u8 0, .int .u8 0, .int .u8 0, .int .u8 0, .int .u8 0, .int .u8 0, .int .u8 0, .int .u8 0, .int .u8 0, .int .u8 0, .int .u8 0, .int .u8 0, .int .u8 0, .int .u8 0, .int .u8 0]
  | 5 => #[.int .u8 (h.1 / 16777216 % 256), .int .u8 (h.1 / 65536 % 256), .int .u8 (h.1 / 256 % 256), .int .u8 (h.1 % 256), .int .u8 (h.2.1 / 16777216 % 256), .int .u8 0, .int .u8 0, .int .u8 0, .int .u8 0, .int .u8 0, .int .u8 0, .int .u8 0, .int .u8 0, .int .u8 0, .int .u8 0, .int .u8 0, .int .u8 0, .int .u8 0, .int .u8 0, .int .u8 0]
  | 6 => #[.int .u8 (h.1 / 16777216 % 256), .int .u8 (h.1 / 65536 % 256), .int .u8 (h.1 / 256 % 256), .int .u8 (h.1 % 256), .int .u8 (h.2.1 / 16777216 % 256), .int .u8 (h.2.1 / 65536 % 256), .int .u8 0, .int .u8 0, .int .u8 0, .int .u8 0, .int .u8 0, .int .u8 0, .int .u8 0, .int .u8 0, .int .u8 0, .int .u8 0, .int .u8 0, .int .u8 0, .int .u8 0, .int .u8 0]
  | 7 => #[.int .u8 (h.1 / 16777216 % 256), .int .u8 (h.1 / 65536 % 256), .int .u8 (h.1 / 256 % 256), .int .u8 (h.1 % 256), .int .u8 (h.2.1 / 16777216 % 256), .int .u8 (h.2.1 / 65536 % 256), .int .u8 (h.2.1 / 256 % 256), .int .u8 0, .int .u8 0, .int .u8 0, .int .u8 0, .int .u8 0, .int .u8 0, .int .u8 0, .int .u8 0, .int .u8 0, .int .u8 0, .int .u8 0, .int .u8 0, .int .u8 0]
  | 8 => #[.int .u8 (h.1 / 16777216 % 256), .int .u8 (h.1 / 65536 % 256), .int .u8 (h.1 / 256 % 256), .int .u8 (h.1 % 256), .int .u8 (h.2.1 / 16777216 % 256), .int .u8 (h.2.1 / 65536 % 256), .int .u8 (h.2.1 / 256 % 256), .int .u8 (h.2.1 % 256), .int .u8 0, .int .u8 0, .int .u8 0, .int .u8 0, .int .u8 0, .int .u8 0, .int .u8 0, .int .u8 0, .int .u8 0, .int .u8 0, .int .u8 0, .int .u8 0]
  | 9 => #[.int .u8 (h.1 / 16777216 % 256), .int .u8 (h.1 / 65536 % 256), .int .u8 (h.1 / 256 % 256), .int .u8 (h.1 % 256), .int .u8 (h.2.1 / 16777216 % 256), .int .u8 (h.2.1 / 65536 % 256), .int .u8 (h.2.1 / 256 % 256), .int .u8 (h.2.1 % 256), .int .u8 (h.2.2.1 / 16777216 % 256), .int .u8 0, .int .u8 0, .int .u8 0, .int .u8 0, .int .u8 0, .int .u8 0, .int .u8 0, .int .u8 0, .int .u8 0, .int .u8 0, .int .u8 0]
  | 10 => #[.int .u8 (h.1 / 16777216 % 256), .int .u8 (h.1 / 65536 % 256), .int .u8 (h.1 / 256 % 256), .int .u8 (h.1 % 256), .int .u8 (h.2.1 / 16777216 % 256), .int .u8 (h.2.1 / 65536 % 256), .int .u8 (h.2.1 / 256 % 256), .int .u8 (h.2.1 % 256), .int .u8 (h.2.2.1 / 16777216 % 256), .int .u8 (h.2.2.1 / 65536 % 256), .int .u8 0, .int .u8 0, .int .u8 0, .int .u8 0, .int .u8 0, .int .u8 0, .int .u8 0, .int .u8 0, .int .u8 0, .int .u8 0]
  | 11 => #[.int .u8 (h.1 / 16777216 % 256), .int .u8 (h.1 / 65536 % 256), .int .u8 (h.1 / 256 % 256), .int .u8 (h.1 % 256), .int .u8 (h.2.1 / 16777216 % 256), .int .u8 (h.2.1 / 65536 % 256), .int .u8 (h.2.1 / 256 % 256), .int .u8 (h.2.1 % 256), .int .u8 (h.2.2.1 / 16777216 % 256), .int .u8 (h.2.2.1 / 65536 % 256), .int .u8 (h.2.2.1 / 256 % 256), .int .u8 0, .int .u8 0, .int .u8 0, .int .u8 0, .int .u8 0, .int .u8 0, .int .u8 0, .int .u8 0, .int .u8 0]
  | 12 => #[.int .u8 (h.1 / 16777216 % 256), .int .u8 (h.1 / 65536 % 256), .int .u8 (h.1 / 256 % 256), .int .u8 (h.1 % 256), .int .u8 (h.2.1 / 16777216 % 256), .int .u8 (h.2.1 / 65536 % 256), .int .u8 (h.2.1 / 256 % 256), .int .u8 (h.2.1 % 256), .int .u8 (h.2.2.1 / 16777216 % 256), .int .u8 (h.2.2.1 / 65536 % 256), .int .u8 (h.2.2.1 / 256 % 256), .int .u8 (h.2.2.1 % 256), .int .u8 0, .int .u8 0, .int .u8 0, .int .u8 0, .int .u8 0, .int .u8 0, .int .u8 0, .int .u8 0]
  | 13 => #[.int .u8 (h.1 / 16777216 % 256), .int .u8 (h.1 / 65536 % 256), .int .u8 (h.1 / 256 % 256), .int .u8 (h.1 % 256), .int .u8 (h.2.1 / 16777216 % 256), .int .u8 (h.2.1 / 65536 % 256), .int .u8 (h.2.1 / 256 % 256), .int .u8 (h.2.1 % 256), .int .u8 (h.2.2.1 / 16777216 % 256), .int .u8 (h.2.2.1 / 65536 % 256), .int .u8 (h.2.2.1 / 256 % 256), .int .u8 (h.2.2.1 % 256), .int .u8 (h.2.2.2.1 / 16777216 % 256), .int .u8 0, .int .u8 0, .int .u8 0, .int .u8 0, .int .u8 0, .int .u8 0, .int .u8 0]
  | 14 => #[.int .u8 (h.1 / 16777216 % 256), .int .u8 (h.1 / 65536 % 256), .int .u8 (h.1 / 256 % 256), .int .u8 (h.1 % 256), .int .u8 (h.2.1 / 16777216 % 256), .int .u8 (h.2.1 / 65536 % 256), .int .u8 (h.2.1 / 256 % 256), .int .u8 (h.2.1 % 256), .int .u8 (h.2.2.1 / 16777216 % 256), .int .u8 (h.2.2.1 / 65536 % 256), .int .u8 (h.2.2.1 / 256 % 256), .int .u8 (h.2.2.1 % 256), .int .u8 (h.2.2.2.1 / 16777216 % 256), .int .u8 (h.2.2.2.1 / 65536 % 256), .int .u8 0, .int .u8 0, .int .u8 0, .int .u8 0, .int .u8 0, .int .u8 0]
  | 15 => #[.int .u8 (h.1 / 16777216 % 256), .int .u8 (h.1 / 65536 % 256), .int .u8 (h.1 / 256 % 256), .int .u8 (h.1 % 256), .int .u8 (h.2.1 / 16777216 % 256), .int .u8 (h.2.1 / 65536 % 256), .int .u8 (h.2.1 / 256 % 256), .int .u8 (h.2.1 % 256), .int .u8 (h.2.2.1 / 16777216 % 256), .int .u8 (h.2.2.1 / 65536 % 256), .int .u8 (h.2.2.1 / 256 % 256), .int .u8 (h.2.2.1 % 256), .int .u8 (h.2.2.2.1 / 16777216 % 256), .int .u8 (h.2.2.2.1 / 65536 % 256), .int .u8 (h.2.2.2.1 / 256 % 256), .int .u8 0, .int .u8 0, .int .u8 0, .int .u8 0, .int .u8 0]
  | 16 => #[.int .u8 (h.1 / 16777216 % 256), .int .u8 (h.1 / 65536 % 256), .int .u8 (h.1 / 256 % 256), .int .u8 (h.1 % 256), .int .u8 (h.2.1 / 16777216 % 256), .int .u8 (h.2.1 / 65536 % 256), .int .u8 (h.2.1 / 256 % 256), .int .u8 (h.2.1 % 256), .int .u8 (h.2.2.1 / 16777216 % 256), .int .u8 (h.2.2.1 / 65536 % 256), .int .u8 (h.2.2.1 / 256 % 256), .int .u8 (h.2.2.1 % 256), .int .u8 (h.2.2.2.1 / 16777216 % 256), .int .u8 (h.2.2.2.1 / 65536 % 256), .int .u8 (h.2.2.2.1 / 256 % 256), .int .u8 (h.2.2.2.1 % 256), .int .u8 0, .int .u8 0, .int .u8 0, .int .u8 0]
  | 17 => #[.int .u8 (h.1 / 16777216 % 256), .int .u8 (h.1 / 65536 % 256), .int .u8 (h.1 / 256 % 256), .int .u8 (h.1 % 256), .int .u8 (h.2.1 / 16777216 % 256), .int .u8 (h.2.1 / 65536 % 256), .int .u8 (h.2.1 / 256 % 256), .int .u8 (h.2.1 % 256), .int .u8 (h.2.2.1 / 16777216 % 256), .int .u8 (h.2.2.1 / 65536 % 256), .int .u8 (h.2.2.1 / 256 % 256), .int .u8 (h.2.2.1 % 256), .int .u8 (h.2.2.2.1 / 16777216 % 256), .int .u8 (h.2.2.2.1 / 65536 % 256), .int .u8 (h.2.2.2.1 / 256 % 256), .int .u8 (h.2.2.2.1 % 256), .int .u8 (h.2.2.2.2 / 16777216 % 256), .int .u8 0, .int .u8 0, .int .u8 0]
  | 18 => #[.int .u8 (h.1 / 16777216 % 256), .int .u8 (h.1 / 65536 % 256), .int .u8 (h.1 / 256 % 256), .int .u8 (h.1 % 256), .int .u8 (h.2.1 / 16777216 % 256), .int .u8 (h.2.1 / 65536 % 256), .int .u8 (h.2.1 / 256 % 256), .int .u8 (h.2.1 % 256), .int .u8 (h.2.2.1 / 16777216 % 256), .int .u8 (h.2.2.1 / 65536 % 256), .int .u8 (h.2.2.1 / 256 % 256), .int .u8 (h.2.2.1 % 256), .int .u8 (h.2.2.2.1 / 16777216 % 256), .int .u8 (h.2.2.2.1 / 65536 % 256), .int .u8 (h.2.2.2.1 / 256 % 256), .int .u8 (h.2.2.2.1 % 256), .int .u8 (h.2.2.2.2 / 16777216 % 256), .int .u8 (h.2.2.2.2 / 65536 % 256), .int .u8 0, .int .u8 0]
  | 19 => #[.int .u8 (h.1 / 16777216 % 256), .int .u8 (h.1 / 65536 % 256), .int .u8 (h.1 / 256 % 256), .int .u8 (h.1 % 256), .int .u8 (h.2.1 / 16777216 % 256), .int .u8 (h.2.1 / 65536 % 256), .int .u8 (h.2.1 / 256 % 256), .int .u8 (h.2.1 % 256), .int .u8 (h.2.2.1 / 16777216 % 256), .int .u8 (h.2.2.1 / 65536 % 256), .int .u8 (h.2.2.1 / 256 % 256), .int .u8 (h.2.2.1 % 256), .int .u8 (h.2.2.2.1 / 16777216 % 256), .int .u8 (h.2.2.2.1 / 65536 % 256), .int .u8 (h.2.2.2.1 / 256 % 256), .int .u8 (h.2.2.2.1 % 256), .int .u8 (h.2.2.2.2 / 16777216 % 256), .int .u8 (h.2.2.2.2 / 65536 % 256), .int .u8 (h.2.2.2.2 / 256 % 256), .int .u8 0]
  | _ + 20 => #[.int .u8 (h.1 / 16777216 % 256), .int .u8 (h.1 / 65536 % 256), .int .u8 (h.1 / 256 % 256), .int .u8 (h.1 % 256), .int .u8 (h.2.1 / 16777216 % 256), .int .u8 (h.2.1 / 65536 % 256), .int .u8 (h.2.1 / 256 % 256), .int .u8 (h.2.1 % 256), .int .u8 (h.2.2.1 / 16777216 % 256), .int .u8 (h.2.2.1 / 65536 % 256), .int .u8 (h.2.2.1 / 256 % 256), .int .u8 (h.2.2.1 % 256), .int .u8 (h.2.2.2.1 / 16777216 % 256), .int .u8 (h.2.2.2.1 / 65536 % 256), .int .u8 (h.2.2.2.1 / 256 % 256), .int .u8 (h.2.2.2.1 % 256), .int .u8 (h.2.2.2.2 / 16777216 % 256), .int .u8 (h.2.2.2.2 / 65536 % 256), .int .u8 (h.2.2.2.2 / 256 % 256), .int .u8 (h.2.2.2.2 % 256)]
set_option maxRecDepth 100000 in
theorem first_calls (w : World) : Calls Tryd.prog 99 #[] w fun e w' => e = .returned (.agg #[.int .u32 1732584193, .int .u32 4023233417, .int .u32 2562383102, .int .u32 271733878, .int .u32 3285377520]) ∧ Below w.heap.size w w' := by
  go_enter Tryd.func99, Tryd.ntmps99
  go_wp2_with (first | ((with_reducible refine gate_dst (N := 0) rfl ?_); refine box_event ?hg (N := 0) ?hd (cs := #[.int .u32 0, .int .u32 0, .int .u32 0, .int .u32 0, .int .u32 0]) (t := 42) ?hr ?_; (case hd => rfl); (case hg => rfl); (case hr => first | (go_simp; done) | (go_simp; rfl)); intro g1 hgg1 w2 hhg1 hbg1; have H5 := Aside0.mk hhg1; have G3 : w.heap.size ≤ g1 := Nat.le_of_eq hgg1.symm; have B4 := Aside0.mk (hbg1); clear hgg1 hhg1 hbg1) | ((with_reducible refine gate_store (t := 42) (p := _) rfl ?_); refine storeN_event (T := 42) rfl rfl rfl rfl rfl (storeVar_blk H5.out 42 0 [.int .u32 1732584193, .int .u32 4023233417, .int .u32 2562383102, .int .u32 271733878, .int .u32 3285377520] (by kernel_rfl) rfl (by simp)) ?_; have H7 := Aside0.mk (show (World.setCells w2 g1 0 [.int .u32 1732584193, .int .u32 4023233417, .int .u32 2562383102, .int .u32 271733878, .int .u32 3285377520]).heap[g1]? = some (.cells #[.int .u32 1732584193, .int .u32 4023233417, .int .u32 2562383102, .int .u32 271733878, .int .u32 3285377520] 42 (0, 0)) from blk_setCells [] [.int .u32 1732584193, .int .u32 4023233417, .int .u32 2562383102, .int .u32 271733878, .int .u32 3285377520] [.int .u32 0, .int .u32 0, .int .u32 0, .int .u32 0, .int .u32 0] [] w2 rfl H5.out); have B8 := Aside0.mk (below_setCells G3 [.int .u32 1732584193, .int .u32 4023233417, .int .u32 2562383102, .int .u32 271733878, .int .u32 3285377520] 0 w2 B4.out); clear H5 B4; generalize World.setCells w2 g1 0 [.int .u32 1732584193, .int .u32 4023233417, .int .u32 2562383102, .int .u32 271733878, .int .u32 3285377520] = w6 at H7 B8 ⊢))
  exact bodyPost_ret (results_cell_row rfl _ _ g1 42 #[.int .u32 1732584193, .int .u32 4023233417, .int .u32 2562383102, .int .u32 271733878, .int .u32 3285377520] (0, 0) _ rfl H7.out Tryd.underlying42 rfl (by kernel_rfl)) rfl ⟨rfl, B8.out⟩
set_option maxHeartbeats 3200000 in
set_option maxRecDepth 100000 in
theorem of_calls (A : Option Addr) (c : Nat) (l pl all : List Int) (M : Nat) (w : World) (hr : Kd.C (Kd.int .u8) w A l.length l) (hlen : l.length ≤ 1000000) (hall : l ++ pl = all) (hM : all.length = 64 * M) (hM0 : 0 < M) (hM2 : M < 100000)
    (hpad : ∀ W : World, Calls Tryd.prog 69 #[.int .i64 (l.length : Int)] W fun e w' => ∃ v0_ : Value, e = .returned v0_ ∧ Kd.R (Kd.int .u8) 5 w' W.heap.size (fun _ => True) v0_ pl ∧ Below W.heap.size W w') :
    Calls Tryd.prog 80 #[.slice A l.length c] w fun e w' => e = .returned (.agg ((dig (fold64b doneW M first5 all)).map (Value.int .u8)).toArray) ∧ Below w.heap.size w w' := by
  have HR := Aside0.mk hr
  have HLN := Aside0.mk hlen
  have HP := Aside0.mk hpad
  have HM := Aside0.mk (And.intro hM (And.intro hM0 hM2))
  have HAL := Aside0.mk hall
  clear hall hr hlen hpad hM hM0 hM2
  go_enter Tryd.func80, Tryd.ntmps80
  go_wp2_with (first | ((with_reducible refine gate_dst (N := 2) rfl ?_); refine box_event ?hg (N := 2) ?hd (cs := #[.int .u8 0, .int .u8 0, .int .u8 0, .int .u8 0, .int .u8 0, .int .u8 0, .int .u8 0, .int .u8 0, .int .u8 0, .int .u8 0, .int .u8 0, .int .u8 0, .int .u8 0, .int .u8 0, .int .u8 0, .int .u8 0, .int .u8 0, .int .u8 0, .int .u8 0, .int .u8 0]) (t := 23) ?hr ?_; (case hd => rfl); (case hg => rfl); (case hr => first | (go_simp; done) | (go_simp; rfl)); intro g1 hgg1 w2 hhg1 hbg1; have H5 := Aside0.mk hhg1; have G3 : w.heap.size ≤ g1 := Nat.le_of_eq hgg1.symm; have B4 := Aside0.mk (hbg1); clear hgg1 hhg1 hbg1) | ((with_reducible refine gate_dst (N := 8) rfl ?_); refine Kd.R_lit (Kd.int .u8) (w0 := w) _ 5 ?hg (N := 8) ?hd (xs := ([] : List Int)) (inner := []) (ok := fun _ => True) (okp := fun _ => True) ?hr ?hp (fun _ hk => hk) trivial B4.out (below_size B4.out) (by simp) ?_; (case hd => rfl); (case hg => rfl); (case hr => first | (go_simp; done) | (go_simp; rfl)); (case hp => exact Reps.none _ _); intro v8 w3 ho hb hg _; have HO3 := Aside0.mk ho; have HA3 := Aside0.mk (blk_grown H5.out hg (by simp)); have B3 := Aside0.mk hb; clear ho hb hg H5 B4) | ((with_reducible refine gate_builtin (b := .append) (xs := #[.tmp 8, .tmp 9]) rfl ?_); at_builtin; refine Kd.R_append_rows (Kd.int .u8) (w0 := w) w.heap.size rfl (.tmp 8) (.tmp 9) 26 5 (.int .u8 0) 1 rfl Tryd.underlying26 info5p rfl (by decide) (by omega) _ ([] : List Int) l _ _ _ (fun _ => True) (fun _ => False) rfl rfl ?aO ?aR (fun _ _ h => h) (fun _ h => h.elim) ?aF ?aB ?aS ?aL ?_; (case aR => exact (Kd.C_below HR.out B3.out)); (case aB => exact B3.out); (case aF => exact (fun _ _ => trivial)); (case aO => exact HO3.out); (case aS => exact below_size B3.out); (case aL => have := HLN.out; simp only [List.length_nil]; omega); intro v10 w4 ho hb hg hat; have HO4 := Aside0.mk ho; have HA4 := Aside0.mk (blk_grown HA3.out hg (Kd.R_ne HO3.out HA3.out (by decide))); have B4 := Aside0.mk hb; clear ho hb hg hat HO3 HA3 B3 ))
  refine (HP.out w4).mono ?_
  rintro e w5 ⟨v_, rfl, hR_, hb_⟩
  obtain ⟨A5, c5, rfl, hle_, hC_⟩ := Kd.R_reads hR_
  have HCP := Aside0.mk hC_
  have HO5 := Aside0.mk (Kd.R_below HO4.out hb_)
  have HA5 := Aside0.mk (blk_below HA4.out hb_)
  have B5 := Aside0.mk (below_step B4.out hb_)
  clear hR_ hb_ hle_ hC_ HO4 HA4 B4
  go_wp2_with (first | ((with_reducible refine gate_builtin (b := .append) (xs := #[.tmp 10, .tmp 13]) rfl ?_); at_builtin; refine Kd.R_append_rows (Kd.int .u8) (w0 := w) w.heap.size rfl (.tmp 10) (.tmp 13) 26 5 (.int .u8 0) 1 rfl Tryd.underlying26 info5p rfl (by decide) (by omega) _ l pl _ _ _ (fun _ => True) (fun _ => False) rfl rfl ?aO ?aR (fun _ _ h => h) (fun _ h => h.elim) ?aF ?aB ?aS ?aL ?_; (case aR => exact HCP.out); (case aB => exact B5.out); (case aF => exact (fun _ _ => trivial)); (case aO => exact HO5.out); (case aS => exact below_size B5.out); (case aL => have := HM.out; have := HAL.out; have h2 := congrArg List.length this; rw [List.length_append] at h2; omega); intro v14 w6 ho hb hg hat; have HO60 := Aside0.mk ho; have HA6 := Aside0.mk (blk_grown HA5.out hg (Kd.R_ne HO5.out HA5.out (by decide))); have B6 := Aside0.mk hb; have HO6 := Aside0.mk (HAL.out ▸ HO60.out); clear HO60 ho hb hg hat HO5 HA5 B5 ))
  obtain ⟨ra, ca, rfl, hle_, hC_⟩ := row_form HO6.out (n := 64 * M) HM.out.1 (by have := HM.out; omega)
  have HLA := Aside0.mk hle_
  clear hle_ hC_
  refine (first_calls w6).mono ?_
  rintro e w7 ⟨rfl, hb_⟩
  have HO7 := Aside0.mk (Kd.R_below HO6.out hb_)
  have HA7 := Aside0.mk (blk_below HA6.out hb_)
  have B7 := Aside0.mk (below_step B6.out hb_)
  clear hb_ HO6 HA6 B6
  go_wp2_with (first | ((with_reducible refine gate_dst (N := 4) rfl ?_); refine box_event ?hg (N := 4) ?hd (cs := #[.int .u32 0, .int .u32 0, .int .u32 0, .int .u32 0, .int .u32 0]) (t := 42) ?hr ?_; (case hd => rfl); (case hg => rfl); (case hr => first | (go_simp; done) | (go_simp; rfl)); intro g4 hg4 w8 hh hb; have N24 : g1 ≠ g4 := Nat.ne_of_lt (Nat.lt_of_lt_of_eq (blk_lt HA7.out) hg4.symm); have G4 : w.heap.size ≤ g4 := Nat.le_trans B7.out.size (Nat.le_of_eq hg4.symm); have H48 := Aside0.mk hh; have HA8 := Aside0.mk (blk_below HA7.out hb); have HO8 := Aside0.mk (Kd.R_below HO7.out hb); have B8 := Aside0.mk (below_step B7.out hb); clear hg4 hh hb HA7 HO7 B7) | ((with_reducible refine gate_store (t := 42) (p := _) rfl ?_); refine storeN_event (T := 42) rfl rfl rfl rfl rfl (storeVar_blk H48.out 42 0 [.int .u32 1732584193, .int .u32 4023233417, .int .u32 2562383102, .int .u32 271733878, .int .u32 3285377520] (by kernel_rfl) rfl (by simp)) ?_; have H49 := Aside0.mk (show (World.setCells w8 g4 0 [.int .u32 1732584193, .int .u32 4023233417, .int .u32 2562383102, .int .u32 271733878, .int .u32 3285377520]).heap[g4]? = some (.cells #[.int .u32 1732584193, .int .u32 4023233417, .int .u32 2562383102, .int .u32 271733878, .int .u32 3285377520] 42 (0, 0)) from blk_setCells [] [.int .u32 1732584193, .int .u32 4023233417, .int .u32 2562383102, .int .u32 271733878, .int .u32 3285377520] [.int .u32 0, .int .u32 0, .int .u32 0, .int .u32 0, .int .u32 0] [] w8 rfl H48.out); have HA9 := Aside0.mk (far_setCells N24 [.int .u32 1732584193, .int .u32 4023233417, .int .u32 2562383102, .int .u32 271733878, .int .u32 3285377520] 0 w8 HA8.out); have HO9 := Aside0.mk (R_setCells (show (5 : Nat) ≠ 42 by decide) [.int .u32 1732584193, .int .u32 4023233417, .int .u32 2562383102, .int .u32 271733878, .int .u32 3285377520] 0 w8 HO8.out H48.out); have B9 := Aside0.mk (below_setCells G4 [.int .u32 1732584193, .int .u32 4023233417, .int .u32 2562383102, .int .u32 271733878, .int .u32 3285377520] 0 w8 B8.out); clear H48 HA8 HO8 B8; generalize World.setCells w8 g4 0 [.int .u32 1732584193, .int .u32 4023233417, .int .u32 2562383102, .int .u32 271733878, .int .u32 3285377520] = w9 at H49 HA9 HO9 B9 ⊢))
  go_loopg [5] M (fun n v5 w' => ∃ (j m : Nat) (h : W5), v5 = .int .i64 ((64 * j : Nat) : Int) ∧ Aside0 (m = n) ∧ Aside0 (j + m = M) ∧ Aside0 (fold64b doneW m h (all.drop (64 * j)) = fold64b doneW M first5 all) ∧ Aside0 (w'.heap[g1]? = some (.cells #[.int .u8 0, .int .u8 0, .int .u8 0, .int .u8 0, .int .u8 0, .int .u8 0, .int .u8 0, .int .u8 0, .int .u8 0, .int .u8 0, .int .u8 0, .int .u8 0, .int .u8 0, .int .u8 0, .int .u8 0, .int .u8 0, .int .u8 0, .int .u8 0, .int .u8 0, .int .u8 0] 23 (0, 0))) ∧ Aside0 (w'.heap[g4]? = some (.cells #[.int .u32 (h).1, .int .u32 (h).2.1, .int .u32 (h).2.2.1, .int .u32 (h).2.2.2.1, .int .u32 (h).2.2.2.2] 42 (0, 0))) ∧ Aside0 (Kd.R (Kd.int .u8) 5 w' w.heap.size (fun _ => True) (.slice (some ⟨ra, 0, none⟩) (64 * M) ca) all) ∧ Aside0 (Below w.heap.size w w'))
  case atStart => exact ⟨0, M, first5, rfl, ⟨rfl⟩, ⟨by omega⟩, ⟨rfl⟩, HA9, H49, HO9, B9⟩
  case round =>
    clear HA9 H49 HO9 B9
    obtain ⟨j, m, h, rfl, HK, HJ, HF, HA2, H4, HO, BB⟩ := hrel
    by_cases hk : 0 < m
    · obtain ⟨go, rfl⟩ : ∃ k, gk = k + 1 := ⟨gk - 1, by have := HK.out; omega⟩
      obtain ⟨m, rfl⟩ : ∃ k, m = k + 1 := ⟨m - 1, by omega⟩
      obtain ⟨at_, hat⟩ : ∃ a : Nat, a = 64 * j := ⟨_, rfl⟩
      have HJ2 := Aside0.mk (show at_ + 64 ≤ 64 * M ∧ M < 100000 by have := HJ.out; have := HM.out; omega)
      rw [← hat]
      have HAT := Aside0.mk hat
      have hj2 := HJ2.out
      clear hat
      have t1 : ((at_ : Int) < ((64 * M : Nat) : Int)) = True := eq_true (by omega)
      have t2 : (at_ < 64 * M) = True := eq_true (by omega)
      go_wp2_with fail
      obtain ⟨ad6, hcut, hc6⟩ := cut64 ra M ca at_ HJ2.out.1 HJ2.out.2 HLA.out
      have HC6 := Aside0.mk (fun W b hW => hc6 W b all HM.out.1 hW)
      have HL6 := Aside0.mk (len64 all at_ M HM.out.1 HJ2.out.1)
      have hbd := bd64 at_ M HJ2.out
      clear hc6 t1 t2 hj2
      have HA25 := Aside0.mk (blk_drew HA2.out)
      have H45 := Aside0.mk (blk_drew H4.out)
      have HO5 := Aside0.mk (Kd.R_drew HO.out)
      have B5 := Aside0.mk (below_drew BB.out)
      clear HA2 H4 HO BB
      refine start_ (n := 8) (S := fun w' => (loadVar 42 ⟨g4, 0, none⟩).run Tryd.prog w' = .ok (.agg #[.int .u32 (h).1, .int .u32 (h).2.1, .int .u32 (h).2.2.1, .int .u32 (h).2.2.2.1, .int .u32 (h).2.2.2.2]) w') (ds := [7]) #[false, false, false, false, false, false, false, false] (by kernel_rfl) rfl rfl ((run_loadVar_row _ _ _ _ _ (0, 0) _ H45.out Tryd.underlying42 rfl (by kernel_rfl))) (fun hHeld => ?_)
      generalize World.drew wr = w5 at HA25 H45 HO5 B5 hHeld ⊢
      refine pure_ (i := 1) (N := some 23) (v := ?_) (a' := ?_) #[false, true, false, false, false, false, false, false] rfl rfl (by kernel_rfl) (fun _ _ _ h => h) (Or.inl ⟨by rfl, ?_⟩) ?_ ?_
      rotate_left
      · intro w'
        go_simp
        with_reducible rfl
      rotate_left
      · simp only [Act.put, List.setIfInBounds_toArray, List.set_cons_zero, List.set_cons_succ, i64_w, i32_w]
        rfl
      refine pure_ (i := 2) (N := some 24) (v := ?_) (a' := ?_) #[false, true, true, false, false, false, false, false] rfl rfl (by kernel_rfl) (fun _ _ _ h => h) (Or.inl ⟨by rfl, ?_⟩) ?_ ?_
      rotate_left
      · intro w'
        go_simp
        with_reducible rfl
      rotate_left
      · simp only [Act.put, List.setIfInBounds_toArray, List.set_cons_zero, List.set_cons_succ, i64_w, i32_w]
        rfl
      refine pure_ (i := 3) (N := some 25) (v := ?_) (a' := ?_) #[false, true, true, true, false, false, false, false] rfl rfl (by kernel_rfl) (fun _ _ _ h => h) (Or.inl ⟨by rfl, ?_⟩) ?_ ?_
      rotate_left
      · intro w'
        go_simp
        with_reducible rfl
      rotate_left
      · simp only [Act.put, List.setIfInBounds_toArray, List.set_cons_zero, List.set_cons_succ, i64_w, i32_w]
        rfl
      refine pure_ (i := 4) (N := some 26) (v := ?_) (a' := ?_) #[false, true, true, true, true, false, false, false] rfl rfl (by kernel_rfl) (fun _ _ _ h => h) (Or.inl ⟨by rfl, ?_⟩) ?_ ?_
      rotate_left
      · intro w'
        go_simp
        with_reducible rfl
      rotate_left
      · simp only [Act.put, List.setIfInBounds_toArray, List.set_cons_zero, List.set_cons_succ, i64_w, i32_w]
        rfl
      refine pure_ (i := 5) (N := some 27) (v := ?_) (a' := ?_) #[false, true, true, true, true, true, false, false] rfl rfl (by kernel_rfl) (fun _ _ _ h => h) (Or.inl ⟨by rfl, ?_⟩) ?_ ?_
      rotate_left
      · intro w'
        go_simp
        with_reducible rfl
      rotate_left
      · simp only [Act.put, List.setIfInBounds_toArray, List.set_cons_zero, List.set_cons_succ, i64_w, i32_w]
        rfl
      refine take_ (i := 0) (N := some 22) (v := ?_) (a' := ?_) #[true, true, true, true, true, true, false, false] rfl rfl (by kernel_rfl) (fun _ _ _ h => h) (Or.inl ⟨by rfl, ?_⟩) hHeld ?_ ?_
      rotate_left
      · intro w' s0
        refine (loadN_run (T := 42) rfl rfl s0).trans ?_
        with_reducible rfl
      rotate_left
      · simp only [Act.put, List.setIfInBounds_toArray, List.set_cons_zero, List.set_cons_succ, i64_w, i32_w]
        rfl
      refine one_ (i := 6) (N := some 28) #[true, true, true, true, true, true, true, false] rfl rfl (by kernel_rfl) (by decide) (fun K hK => ?_)
      refine goes_ Tryd.func71 (by kernel_rfl) rfl #[.agg #[.int .u32 (h).1, .int .u32 (h).2.1, .int .u32 (h).2.2.1, .int .u32 (h).2.2.2.1, .int .u32 (h).2.2.2.2], .slice (some ad6) 64 (ca - at_)] (by rfl) rfl rfl (by simp only [List.map_toArray, List.map_cons, List.map_nil]; rfl) ?_
      with_reducible refine (done_calls h.1 h.2.1 h.2.2.1 h.2.2.2.1 h.2.2.2.2 ad6 64 (ca - at_) ((all.drop at_).take 64) w5 (HC6.out _ _ HO5.out) HL6.out (by decide) (by decide)).mono ?_
      rintro e_ w6 ⟨rfl, hb_⟩
      refine ⟨_, rfl, ?_⟩
      have HA26 := Aside0.mk (blk_below HA25.out hb_)
      have H46 := Aside0.mk (blk_below H45.out hb_)
      have HO6 := Aside0.mk (Kd.R_below HO5.out hb_)
      have B6 := Aside0.mk (below_step B5.out hb_)
      clear hb_ HA25 H45 HO5 B5
      refine hK.out _ _ ((run_loadVar_row _ _ _ _ _ (0, 0) _ H46.out Tryd.underlying42 rfl (by kernel_rfl))) (fun hHeld => ?_)
      clear hK K
      refine norm_ (a' := ?_) ?_ ?_
      rotate_left
      · show Act.put _ (some 28) _ = _
        simp only [Act.put, List.setIfInBounds_toArray, List.set_cons_zero, List.set_cons_succ, i64_w, i32_w]
        rfl
      refine last_ (i := 7) (N := none) #[true, true, true, true, true, true, true, true] rfl rfl (by kernel_rfl) (by decide) (fun K hK => ?_)
      refine skip_ (w1 := World.setCells w6 g4 0 [.int .u32 ((doneF h.1 h.2.1 h.2.2.1 h.2.2.2.1 h.2.2.2.2 ((all.drop at_).take 64))).1, .int .u32 ((doneF h.1 h.2.1 h.2.2.1 h.2.2.2.1 h.2.2.2.2 ((all.drop at_).take 64))).2.1, .int .u32 ((doneF h.1 h.2.1 h.2.2.1 h.2.2.2.1 h.2.2.2.2 ((all.drop at_).take 64))).2.2.1, .int .u32 ((doneF h.1 h.2.1 h.2.2.1 h.2.2.2.1 h.2.2.2.2 ((all.drop at_).take 64))).2.2.2.1, .int .u32 ((doneF h.1 h.2.1 h.2.2.1 h.2.2.2.1 h.2.2.2.2 ((all.drop at_).take 64))).2.2.2.2]) (by rfl) rfl (by exact storeN_run (T := 42) (vs := [.int .u32 ((doneF h.1 h.2.1 h.2.2.1 h.2.2.2.1 h.2.2.2.2 ((all.drop at_).take 64))).1, .int .u32 ((doneF h.1 h.2.1 h.2.2.1 h.2.2.2.1 h.2.2.2.2 ((all.drop at_).take 64))).2.1, .int .u32 ((doneF h.1 h.2.1 h.2.2.1 h.2.2.2.1 h.2.2.2.2 ((all.drop at_).take 64))).2.2.1, .int .u32 ((doneF h.1 h.2.1 h.2.2.1 h.2.2.2.1 h.2.2.2.2 ((all.drop at_).take 64))).2.2.2.1, .int .u32 ((doneF h.1 h.2.1 h.2.2.1 h.2.2.2.1 h.2.2.2.2 ((all.drop at_).take 64))).2.2.2.2]) rfl rfl rfl (storeVar_blk H46.out 42 0 [.int .u32 ((doneF h.1 h.2.1 h.2.2.1 h.2.2.2.1 h.2.2.2.2 ((all.drop at_).take 64))).1, .int .u32 ((doneF h.1 h.2.1 h.2.2.1 h.2.2.2.1 h.2.2.2.2 ((all.drop at_).take 64))).2.1, .int .u32 ((doneF h.1 h.2.1 h.2.2.1 h.2.2.2.1 h.2.2.2.2 ((all.drop at_).take 64))).2.2.1, .int .u32 ((doneF h.1 h.2.1 h.2.2.1 h.2.2.2.1 h.2.2.2.2 ((all.drop at_).take 64))).2.2.2.1, .int .u32 ((doneF h.1 h.2.1 h.2.2.1 h.2.2.2.1 h.2.2.2.2 ((all.drop at_).take 64))).2.2.2.2] (by kernel_rfl) rfl (by simp))) ?_
      refine hK.out _ _ ?_
      clear hK K
      refine done_ (by kernel_rfl) ?_
      have H47 := Aside0.mk (show (World.setCells w6 g4 0 [.int .u32 ((doneF h.1 h.2.1 h.2.2.1 h.2.2.2.1 h.2.2.2.2 ((all.drop at_).take 64))).1, .int .u32 ((doneF h.1 h.2.1 h.2.2.1 h.2.2.2.1 h.2.2.2.2 ((all.drop at_).take 64))).2.1, .int .u32 ((doneF h.1 h.2.1 h.2.2.1 h.2.2.2.1 h.2.2.2.2 ((all.drop at_).take 64))).2.2.1, .int .u32 ((doneF h.1 h.2.1 h.2.2.1 h.2.2.2.1 h.2.2.2.2 ((all.drop at_).take 64))).2.2.2.1, .int .u32 ((doneF h.1 h.2.1 h.2.2.1 h.2.2.2.1 h.2.2.2.2 ((all.drop at_).take 64))).2.2.2.2]).heap[g4]? = some (.cells #[.int .u32 ((doneF h.1 h.2.1 h.2.2.1 h.2.2.2.1 h.2.2.2.2 ((all.drop at_).take 64))).1, .int .u32 ((doneF h.1 h.2.1 h.2.2.1 h.2.2.2.1 h.2.2.2.2 ((all.drop at_).take 64))).2.1, .int .u32 ((doneF h.1 h.2.1 h.2.2.1 h.2.2.2.1 h.2.2.2.2 ((all.drop at_).take 64))).2.2.1, .int .u32 ((doneF h.1 h.2.1 h.2.2.1 h.2.2.2.1 h.2.2.2.2 ((all.drop at_).take 64))).2.2.2.1, .int .u32 ((doneF h.1 h.2.1 h.2.2.1 h.2.2.2.1 h.2.2.2.2 ((all.drop at_).take 64))).2.2.2.2] 42 (0, 0)) from blk_setCells [] [.int .u32 ((doneF h.1 h.2.1 h.2.2.1 h.2.2.2.1 h.2.2.2.2 ((all.drop at_).take 64))).1, .int .u32 ((doneF h.1 h.2.1 h.2.2.1 h.2.2.2.1 h.2.2.2.2 ((all.drop at_).take 64))).2.1, .int .u32 ((doneF h.1 h.2.1 h.2.2.1 h.2.2.2.1 h.2.2.2.2 ((all.drop at_).take 64))).2.2.1, .int .u32 ((doneF h.1 h.2.1 h.2.2.1 h.2.2.2.1 h.2.2.2.2 ((all.drop at_).take 64))).2.2.2.1, .int .u32 ((doneF h.1 h.2.1 h.2.2.1 h.2.2.2.1 h.2.2.2.2 ((all.drop at_).take 64))).2.2.2.2] [.int .u32 (h).1, .int .u32 (h).2.1, .int .u32 (h).2.2.1, .int .u32 (h).2.2.2.1, .int .u32 (h).2.2.2.2] [] w6 rfl H46.out); have HA27 := Aside0.mk (far_setCells N24 [.int .u32 ((doneF h.1 h.2.1 h.2.2.1 h.2.2.2.1 h.2.2.2.2 ((all.drop at_).take 64))).1, .int .u32 ((doneF h.1 h.2.1 h.2.2.1 h.2.2.2.1 h.2.2.2.2 ((all.drop at_).take 64))).2.1, .int .u32 ((doneF h.1 h.2.1 h.2.2.1 h.2.2.2.1 h.2.2.2.2 ((all.drop at_).take 64))).2.2.1, .int .u32 ((doneF h.1 h.2.1 h.2.2.1 h.2.2.2.1 h.2.2.2.2 ((all.drop at_).take 64))).2.2.2.1, .int .u32 ((doneF h.1 h.2.1 h.2.2.1 h.2.2.2.1 h.2.2.2.2 ((all.drop at_).take 64))).2.2.2.2] 0 w6 HA26.out); have HO7 := Aside0.mk (R_setCells (show (5 : Nat) ≠ 42 by decide) [.int .u32 ((doneF h.1 h.2.1 h.2.2.1 h.2.2.2.1 h.2.2.2.2 ((all.drop at_).take 64))).1, .int .u32 ((doneF h.1 h.2.1 h.2.2.1 h.2.2.2.1 h.2.2.2.2 ((all.drop at_).take 64))).2.1, .int .u32 ((doneF h.1 h.2.1 h.2.2.1 h.2.2.2.1 h.2.2.2.2 ((all.drop at_).take 64))).2.2.1, .int .u32 ((doneF h.1 h.2.1 h.2.2.1 h.2.2.2.1 h.2.2.2.2 ((all.drop at_).take 64))).2.2.2.1, .int .u32 ((doneF h.1 h.2.1 h.2.2.1 h.2.2.2.1 h.2.2.2.2 ((all.drop at_).take 64))).2.2.2.2] 0 w6 HO6.out H46.out); have B7 := Aside0.mk (below_setCells G4 [.int .u32 ((doneF h.1 h.2.1 h.2.2.1 h.2.2.2.1 h.2.2.2.2 ((all.drop at_).take 64))).1, .int .u32 ((doneF h.1 h.2.1 h.2.2.1 h.2.2.2.1 h.2.2.2.2 ((all.drop at_).take 64))).2.1, .int .u32 ((doneF h.1 h.2.1 h.2.2.1 h.2.2.2.1 h.2.2.2.2 ((all.drop at_).take 64))).2.2.1, .int .u32 ((doneF h.1 h.2.1 h.2.2.1 h.2.2.2.1 h.2.2.2.2 ((all.drop at_).take 64))).2.2.2.1, .int .u32 ((doneF h.1 h.2.1 h.2.2.1 h.2.2.2.1 h.2.2.2.2 ((all.drop at_).take 64))).2.2.2.2] 0 w6 B6.out); clear H46 HA26 HO6 B6; generalize World.setCells w6 g4 0 [.int .u32 ((doneF h.1 h.2.1 h.2.2.1 h.2.2.2.1 h.2.2.2.2 ((all.drop at_).take 64))).1, .int .u32 ((doneF h.1 h.2.1 h.2.2.1 h.2.2.2.1 h.2.2.2.2 ((all.drop at_).take 64))).2.1, .int .u32 ((doneF h.1 h.2.1 h.2.2.1 h.2.2.2.1 h.2.2.2.2 ((all.drop at_).take 64))).2.2.1, .int .u32 ((doneF h.1 h.2.1 h.2.2.1 h.2.2.2.1 h.2.2.2.2 ((all.drop at_).take 64))).2.2.2.1, .int .u32 ((doneF h.1 h.2.1 h.2.2.1 h.2.2.2.1 h.2.2.2.2 ((all.drop at_).take 64))).2.2.2.2] = w7 at H47 HA27 HO7 B7 ⊢
      clear hcut hHeld
      go_wp2_with fail
      go_roundg go
      case measure => have := HK.out; omega
      case rel => exact ⟨j + 1, m, doneW h ((all.drop at_).take 64), congrArg (Value.int .i64) (by rw [HAT.out]; omega), ⟨by have := HK.out; omega⟩, ⟨by have := HJ.out; omega⟩, ⟨by rw [← HF.out, HAT.out, show all.drop (64 * (j + 1)) = (all.drop (64 * j)).drop 64 by rw [List.drop_drop]; rfl]; rfl⟩, HA27, H47, HO7, B7⟩
    · obtain rfl : m = 0 := by omega
      have t1 : (((64 * j : Nat) : Int) < ((64 * M : Nat) : Int)) = False := eq_false (by have := HJ.out; omega)
      have t2 : (64 * j < 64 * M) = False := eq_false (by have := HJ.out; omega)
      have hfold : h = fold64b doneW M first5 all := HF.out
      have HFD := Aside0.mk hfold
      clear hfold HF HK HO
      have t3 : (j < M) = False := eq_false (by have := HJ.out; omega)
      go_wp2_with (first | ((with_reducible refine gate_dst (N := 6) rfl ?_); refine box_event ?hg (N := 6) ?hd (cs := #[.int .u8 0, .int .u8 0, .int .u8 0, .int .u8 0, .int .u8 0, .int .u8 0, .int .u8 0, .int .u8 0, .int .u8 0, .int .u8 0, .int .u8 0, .int .u8 0, .int .u8 0, .int .u8 0, .int .u8 0, .int .u8 0, .int .u8 0, .int .u8 0, .int .u8 0, .int .u8 0]) (t := 23) ?hr ?_; (case hd => rfl); (case hg => rfl); (case hr => first | (go_simp; done) | (go_simp; rfl)); intro g6 hg6 w8 hh hb; have N26 : g1 ≠ g6 := Nat.ne_of_lt (Nat.lt_of_lt_of_eq (blk_lt HA2.out) hg6.symm); have N46 : g4 ≠ g6 := Nat.ne_of_lt (Nat.lt_of_lt_of_eq (blk_lt H4.out) hg6.symm); have G6 : w.heap.size ≤ g6 := Nat.le_trans BB.out.size (Nat.le_of_eq hg6.symm); have H68 := Aside0.mk hh; have HA8 := Aside0.mk (blk_below HA2.out hb); have H48 := Aside0.mk (blk_below H4.out hb); have B8 := Aside0.mk (below_step BB.out hb); clear hg6 hh hb HA2 H4 BB))
      have HU := Aside0.mk (show w8.heap[g6]? = some (.cells (upd1 h 0) 23 (0, 0)) from H68.out)
      clear H68
      go_wp2_with fail
      go_loopg [7] 20 (fun n v7 w' => ∃ (i : Nat), v7 = .int .i64 (i : Int) ∧ Aside0 (i + n = 20) ∧ Aside0 (w'.heap[g6]? = some (.cells (upd1 h i) 23 (0, 0))) ∧ Aside0 (w'.heap[g1]? = some (.cells #[.int .u8 0, .int .u8 0, .int .u8 0, .int .u8 0, .int .u8 0, .int .u8 0, .int .u8 0, .int .u8 0, .int .u8 0, .int .u8 0, .int .u8 0, .int .u8 0, .int .u8 0, .int .u8 0, .int .u8 0, .int .u8 0, .int .u8 0, .int .u8 0, .int .u8 0, .int .u8 0] 23 (0, 0))) ∧ Aside0 (w'.heap[g4]? = some (.cells #[.int .u32 (h).1, .int .u32 (h).2.1, .int .u32 (h).2.2.1, .int .u32 (h).2.2.2.1, .int .u32 (h).2.2.2.2] 42 (0, 0))) ∧ Aside0 (Below w.heap.size w w'))
      case atStart => exact ⟨0, rfl, ⟨rfl⟩, HU, HA8, H48, B8⟩
      case round =>
        clear HU HA8 H48 B8
        obtain ⟨i, rfl, HK, HU, HA2, H4, BB⟩ := hrel
        by_cases hk : i < 20
        · obtain ⟨go, rfl⟩ : ∃ k, gk = k + 1 := ⟨gk - 1, by have := HK.out; omega⟩
          obtain rfl | rfl | rfl | rfl | rfl | rfl | rfl | rfl | rfl | rfl | rfl | rfl | rfl | rfl | rfl | rfl | rfl | rfl | rfl | rfl : i = 0 ∨ i = 1 ∨ i = 2 ∨ i = 3 ∨ i = 4 ∨ i = 5 ∨ i = 6 ∨ i = 7 ∨ i = 8 ∨ i = 9 ∨ i = 10 ∨ i = 11 ∨ i = 12 ∨ i = 13 ∨ i = 14 ∨ i = 15 ∨ i = 16 ∨ i = 17 ∨ i = 18 ∨ i = 19 := by omega
          · simp only [show ((0 : Nat) : Int) = 0 from rfl]
            have HU1 := Aside0.mk (show wr.heap[g6]? = some (.cells #[.int .u8 0, .int .u8 0, .int .u8 0, .int .u8 0, .int .u8 0, .int .u8 0, .int .u8 0, .int .u8 0, .int .u8 0, .int .u8 0, .int .u8 0, .int .u8 0, .int .u8 0, .int .u8 0, .int .u8 0, .int .u8 0, .int .u8 0, .int .u8 0, .int .u8 0, .int .u8 0] 23 (0, 0)) from HU.out)
            clear HU
            have u0 : wr.cell? ⟨g6, 0, none⟩ = some (.int .u8 0) := (blk_cell HU1.out 0).trans rfl
            have f0 := blk_frozen HU1.out 0
            have k0 : wr.cell? ⟨g4, 0, none⟩ = some (.int .u32 h.1) := (blk_cell H4.out 0).trans rfl
            go_wp2_with fail
            have HU2 := Aside0.mk (blk_put (cs' := #[.int .u8 (h.1 / 16777216 % 256), .int .u8 0, .int .u8 0, .int .u8 0, .int .u8 0, .int .u8 0, .int .u8 0, .int .u8 0, .int .u8 0, .int .u8 0, .int .u8 0, .int .u8 0, .int .u8 0, .int .u8 0, .int .u8 0, .int .u8 0, .int .u8 0, .int .u8 0, .int .u8 0, .int .u8 0]) HU1.out 0 (.int .u8 (h.1 / 16777216 % 256)) rfl)
            have HA22 := Aside0.mk (blk_far HA2.out (p := ⟨g6, 0, none⟩) N26 (.int .u8 (h.1 / 16777216 % 256)))
            have H42 := Aside0.mk (blk_far H4.out (p := ⟨g6, 0, none⟩) N46 (.int .u8 (h.1 / 16777216 % 256)))
            have B22 := Aside0.mk (below_set (j := 0) (v := .int .u8 (h.1 / 16777216 % 256)) BB.out G6)
            go_roundg go
            case measure => have := HK.out; omega
            case rel => exact ⟨1, by go_num, ⟨by have := HK.out; omega⟩, ⟨HU2.out⟩, HA22, H42, B22⟩
          · simp only [show ((1 : Nat) : Int) = 1 from rfl]
            have HU1 := Aside0.mk (show wr.heap[g6]? = some (.cells #[.int .u8 (h.1 / 16777216 % 256), .int .u8 0, .int .u8 0, .int .u8 0, .int .u8 0, .int .u8 0, .int .u8 0, .int .u8 0, .int .u8 0, .int .u8 0, .int .u8 0, .int .u8 0, .int .u8 0, .int .u8 0, .int .u8 0, .int .u8 0, .int .u8 0, .int .u8 0, .int .u8 0, .int .u8 0] 23 (0, 0)) from HU.out)
            clear HU
            have u0 : wr.cell? ⟨g6, 1, none⟩ = some (.int .u8 0) := (blk_cell HU1.out 1).trans rfl
            have f0 := blk_frozen HU1.out 1
            have k0 : wr.cell? ⟨g4, 0, none⟩ = some (.int .u32 h.1) := (blk_cell H4.out 0).trans rfl
            go_wp2_with fail
            have HU2 := Aside0.mk (blk_put (cs' := #[.int .u8 (h.1 / 16777216 % 256), .int .u8 (h.1 / 65536 % 256), .int .u8 0, .int .u8 0, .int .u8 0, .int .u8 0, .int .u8 0, .int .u8 0, .int .u8 0, .int .u8 0, .int .u8 0, .int .u8 0, .int .u8 0, .int .u8 0, .int .u8 0, .int .u8 0, .int .u8 0, .int .u8 0, .int .u8 0, .int .u8 0]) HU1.out 1 (.int .u8 (h.1 / 65536 % 256)) rfl)
            have HA22 := Aside0.mk (blk_far HA2.out (p := ⟨g6, 1, none⟩) N26 (.int .u8 (h.1 / 65536 % 256)))
            have H42 := Aside0.mk (blk_far H4.out (p := ⟨g6, 1, none⟩) N46 (.int .u8 (h.1 / 65536 % 256)))
            have B22 := Aside0.mk (below_set (j := 1) (v := .int .u8 (h.1 / 65536 % 256)) BB.out G6)
            go_roundg go
            case measure => have := HK.out; omega
            case rel => exact ⟨2, by go_num, ⟨by have := HK.out; omega⟩, ⟨HU2.out⟩, HA22, H42, B22⟩
          · simp only [show ((2 : Nat) : Int) = 2 from rfl]
            have HU1 := Aside0.mk (show wr.heap[g6]? = some (.cells #[.int .u8 (h.1 / 16777216 % 256), .int .u8 (h.1 / 65536 % 256), .int .u8 0, .int .u8 0, .int .u8 0, .int .u8 0, .int .u8 0, .int .u8 0, .int .u8 0, .int .u8 0, .int .u8 0, .int .u8 0, .int .u8 0, .int .u8 0, .int .u8 0, .int .u8 0, .int .u8 0, .int .u8 0, .int .u8 0, .int .u8 0] 23 (0, 0)) from HU.out)
            clear HU
            have u0 : wr.cell? ⟨g6, 2, none⟩ = some (.int .u8 0) := (blk_cell HU1.out 2).trans rfl
            have f0 := blk_frozen HU1.out 2
            have k0 : wr.cell? ⟨g4, 0, none⟩ = some (.int .u32 h.1) := (blk_cell H4.out 0).trans rfl
            go_wp2_with fail
            have HU2 := Aside0.mk (blk_put (cs' := #[.int .u8 (h.1 / 16777216 % 256), .int .u8 (h.1 / 65536 % 256), .int .u8 (h.1 / 256 % 256), .int .u8 0, .int .u8 0, .int .u8 0, .int .u8 0, .int .u8 0, .int .u8 0, .int .u8 0, .int .u8 0, .int .u8 0, .int .u8 0, .int .u8 0, .int .u8 0, .int .u8 0, .int .u8 0, .int .u8 0, .int .u8 0, .int .u8 0]) HU1.out 2 (.int .u8 (h.1 / 256 % 256)) rfl)
            have HA22 := Aside0.mk (blk_far HA2.out (p := ⟨g6, 2, none⟩) N26 (.int .u8 (h.1 / 256 % 256)))
            have H42 := Aside0.mk (blk_far H4.out (p := ⟨g6, 2, none⟩) N46 (.int .u8 (h.1 / 256 % 256)))
            have B22 := Aside0.mk (below_set (j := 2) (v := .int .u8 (h.1 / 256 % 256)) BB.out G6)
            go_roundg go
            case measure => have := HK.out; omega
            case rel => exact ⟨3, by go_num, ⟨by have := HK.out; omega⟩, ⟨HU2.out⟩, HA22, H42, B22⟩
          · simp only [show ((3 : Nat) : Int) = 3 from rfl]
            have HU1 := Aside0.mk (show wr.heap[g6]? = some (.cells #[.int .u8 (h.1 / 16777216 % 256), .int .u8 (h.1 / 65536 % 256), .int .u8 (h.1 / 256 % 256), .int .u8 0, .int .u8 0, .int .u8 0, .int .u8 0, .int .u8 0, .int .u8 0, .int .u8 0, .int .u8 0, .int .u8 0, .int .u8 0, .int .u8 0, .int .u8 0, .int .u8 0, .int .u8 0, .int .u8 0, .int .u8 0, .int .u8 0] 23 (0, 0)) from HU.out)
            clear HU
            have u0 : wr.cell? ⟨g6, 3, none⟩ = some (.int .u8 0) := (blk_cell HU1.out 3).trans rfl
            have f0 := blk_frozen HU1.out 3
            have k0 : wr.cell? ⟨g4, 0, none⟩ = some (.int .u32 h.1) := (blk_cell H4.out 0).trans rfl
            go_wp2_with fail
            have HU2 := Aside0.mk (blk_put (cs' := #[.int .u8 (h.1 / 16777216 % 256), .int .u8 (h.1 / 65536 % 256), .int .u8 (h.1 / 256 % 256), .int .u8 (h.1 % 256), .int .u8 0, .int .u8 0, .int .u8 0, .int .u8 0, .int .u8 0, .int .u8 0, .int .u8 0, .int .u8 0, .int .u8 0, .int .u8 0, .int .u8 0, .int .u8 0, .int .u8 0, .int .u8 0, .int .u8 0, .int .u8 0]) HU1.out 3 (.int .u8 (h.1 % 256)) rfl)
            have HA22 := Aside0.mk (blk_far HA2.out (p := ⟨g6, 3, none⟩) N26 (.int .u8 (h.1 % 256)))
            have H42 := Aside0.mk (blk_far H4.out (p := ⟨g6, 3, none⟩) N46 (.int .u8 (h.1 % 256)))
            have B22 := Aside0.mk (below_set (j := 3) (v := .int .u8 (h.1 % 256)) BB.out G6)
            go_roundg go
            case measure => have := HK.out; omega
            case rel => exact ⟨4, by go_num, ⟨by have := HK.out; omega⟩, ⟨HU2.out⟩, HA22, H42, B22⟩
          · simp only [show ((4 : Nat) : Int) = 4 from rfl]
            have HU1 := Aside0.mk (show wr.heap[g6]? = some (.cells #[.int .u8 (h.1 / 16777216 % 256), .int .u8 (h.1 / 65536 % 256), .int .u8 (h.1 / 256 % 256), .int .u8 (h.1 % 256), .int .u8 0, .int .u8 0, .int .u8 0, .int .u8 0, .int .u8 0, .int .u8 0, .int .u8 0, .int .u8 0, .int .u8 0, .int .u8 0, .int .u8 0, .int .u8 0, .int .u8 0, .int .u8 0, .int .u8 0, .int .u8 0] 23 (0, 0)) from HU.out)
            clear HU
            have u0 : wr.cell? ⟨g6, 4, none⟩ = some (.int .u8 0) := (blk_cell HU1.out 4).trans rfl
            have f0 := blk_frozen HU1.out 4
            have k0 : wr.cell? ⟨g4, 1, none⟩ = some (.int .u32 h.2.1) := (blk_cell H4.out 1).trans rfl
            go_wp2_with fail
            have HU2 := Aside0.mk (blk_put (cs' := #[.int .u8 (h.1 / 16777216 % 256), .int .u8 (h.1 / 65536 % 256), .int .u8 (h.1 / 256 % 256), .int .u8 (h.1 % 256), .int .u8 (h.2.1 / 16777216 % 256), .int .u8 0, .int .u8 0, .int .u8 0, .int .u8 0, .int .u8 0, .int .u8 0, .int .u8 0, .int .u8 0, .int .u8 0, .int .u8 0, .int .u8 0, .int .u8 0, .int .u8 0, .int .u8 0, .int .u8 0]) HU1.out 4 (.int .u8 (h.2.1 / 16777216 % 256)) rfl)
            have HA22 := Aside0.mk (blk_far HA2.out (p := ⟨g6, 4, none⟩) N26 (.int .u8 (h.2.1 / 16777216 % 256)))
            have H42 := Aside0.mk (blk_far H4.out (p := ⟨g6, 4, none⟩) N46 (.int .u8 (h.2.1 / 16777216 % 256)))
            have B22 := Aside0.mk (below_set (j := 4) (v := .int .u8 (h.2.1 / 16777216 % 256)) BB.out G6)
            go_roundg go
            case measure => have := HK.out; omega
            case rel => exact ⟨5, by go_num, ⟨by have := HK.out; omega⟩, ⟨HU2.out⟩, HA22, H42, B22⟩
          · simp only [show ((5 : Nat) : Int) = 5 from rfl]
            have HU1 := Aside0.mk (show wr.heap[g6]? = some (.cells #[.int .u8 (h.1 / 16777216 % 256), .int .u8 (h.1 / 65536 % 256), .int .u8 (h.1 / 256 % 256), .int .u8 (h.1 % 256), .int .u8 (h.2.1 / 16777216 % 256), .int .u8 0, .int .u8 0, .int .u8 0, .int .u8 0, .int .u8 0, .int .u8 0, .int .u8 0, .int .u8 0, .int .u8 0, .int .u8 0, .int .u8 0, .int .u8 0, .int .u8 0, .int .u8 0, .int .u8 0] 23 (0, 0)) from HU.out)
            clear HU
            have u0 : wr.cell? ⟨g6, 5, none⟩ = some (.int .u8 0) := (blk_cell HU1.out 5).trans rfl
            have f0 := blk_frozen HU1.out 5
            have k0 : wr.cell? ⟨g4, 1, none⟩ = some (.int .u32 h.2.1) := (blk_cell H4.out 1).trans rfl
            go_wp2_with fail
            have HU2 := Aside0.mk (blk_put (cs' := #[.int .u8 (h.1 / 16777216 % 256), .int .u8 (h.1 / 65536 % 256), .int .u8 (h.1 / 256 % 256), .int .u8 (h.1 % 256), .int .u8 (h.2.1 / 16777216 % 256), .int .u8 (h.2.1 / 65536 % 256), .int .u8 0, .int .u8 0, .int .u8 0, .int .u8 0, .int .u8 0, .int .u8 0, .int .u8 0, .int .u8 0, .int .u8 0, .int .u8 0, .int .u8 0, .int .u8 0, .int .u8 0, .int .u8 0]) HU1.out 5 (.int .u8 (h.2.1 / 65536 % 256)) rfl)
            have HA22 := Aside0.mk (blk_far HA2.out (p := ⟨g6, 5, none⟩) N26 (.int .u8 (h.2.1 / 65536 % 256)))
            have H42 := Aside0.mk (blk_far H4.out (p := ⟨g6, 5, none⟩) N46 (.int .u8 (h.2.1 / 65536 % 256)))
            have B22 := Aside0.mk (below_set (j := 5) (v := .int .u8 (h.2.1 / 65536 % 256)) BB.out G6)
            go_roundg go
            case measure => have := HK.out; omega
            case rel => exact ⟨6, by go_num, ⟨by have := HK.out; omega⟩, ⟨HU2.out⟩, HA22, H42, B22⟩
          · simp only [show ((6 : Nat) : Int) = 6 from rfl]
            have HU1 := Aside0.mk (show wr.heap[g6]? = some (.cells #[.int .u8 (h.1 / 16777216 % 256), .int .u8 (h.1 / 65536 % 256), .int .u8 (h.1 / 256 % 256), .int .u8 (h.1 % 256), .int .u8 (h.2.1 / 16777216 % 256), .int .u8 (h.2.1 / 65536 % 256), .int .u8 0, .int .u8 0, .int .u8 0, .int .u8 0, .int .u8 0, .int .u8 0, .int .u8 0, .int .u8 0, .int .u8 0, .int .u8 0, .int .u8 0, .int .u8 0, .int .u8 0, .int .u8 0] 23 (0, 0)) from HU.out)
            clear HU
            have u0 : wr.cell? ⟨g6, 6, none⟩ = some (.int .u8 0) := (blk_cell HU1.out 6).trans rfl
            have f0 := blk_frozen HU1.out 6
            have k0 : wr.cell? ⟨g4, 1, none⟩ = some (.int .u32 h.2.1) := (blk_cell H4.out 1).trans rfl
            go_wp2_with fail
            have HU2 := Aside0.mk (blk_put (cs' := #[.int .u8 (h.1 / 16777216 % 256), .int .u8 (h.1 / 65536 % 256), .int .u8 (h.1 / 256 % 256), .int .u8 (h.1 % 256), .int .u8 (h.2.1 / 16777216 % 256), .int .u8 (h.2.1 / 65536 % 256), .int .u8 (h.2.1 / 256 % 256), .int .u8 0, .int .u8 0, .int .u8 0, .int .u8 0, .int .u8 0, .int .u8 0, .int .u8 0, .int .u8 0, .int .u8 0, .int .u8 0, .int .u8 0, .int .u8 0, .int .u8 0]) HU1.out 6 (.int .u8 (h.2.1 / 256 % 256)) rfl)
            have HA22 := Aside0.mk (blk_far HA2.out (p := ⟨g6, 6, none⟩) N26 (.int .u8 (h.2.1 / 256 % 256)))
            have H42 := Aside0.mk (blk_far H4.out (p := ⟨g6, 6, none⟩) N46 (.int .u8 (h.2.1 / 256 % 256)))
            have B22 := Aside0.mk (below_set (j := 6) (v := .int .u8 (h.2.1 / 256 % 256)) BB.out G6)
            go_roundg go
            case measure => have := HK.out; omega
            case rel => exact ⟨7, by go_num, ⟨by have := HK.out; omega⟩, ⟨HU2.out⟩, HA22, H42, B22⟩
          · simp only [show ((7 : Nat) : Int) = 7 from rfl]
            have HU1 := Aside0.mk (show wr.heap[g6]? = some (.cells #[.int .u8 (h.1 / 16777216 % 256), .int .u8 (h.1 / 65536 % 256), .int .u8 (h.1 / 256 % 256), .int .u8 (h.1 % 256), .int .u8 (h.2.1 / 16777216 % 256), .int .u8 (h.2.1 / 65536 % 256), .int .u8 (h.2.1 / 256 % 256), .int .u8 0, .int .u8 0, .int .u8 0, .int .u8 0, .int .u8 0, .int .u8 0, .int .u8 0, .int .u8 0, .int .u8 0, .int .u8 0, .int .u8 0, .int .u8 0, .int .u8 0] 23 (0, 0)) from HU.out)
            clear HU
            have u0 : wr.cell? ⟨g6, 7, none⟩ = some (.int .u8 0) := (blk_cell HU1.out 7).trans rfl
            have f0 := blk_frozen HU1.out 7
            have k0 : wr.cell? ⟨g4, 1, none⟩ = some (.int .u32 h.2.1) := (blk_cell H4.out 1).trans rfl
            go_wp2_with fail
            have HU2 := Aside0.mk (blk_put (cs' := #[.int .u8 (h.1 / 16777216 % 256), .int .u8 (h.1 / 65536 % 256), .int .u8 (h.1 / 256 % 256), .int .u8 (h.1 % 256), .int .u8 (h.2.1 / 16777216 % 256), .int .u8 (h.2.1 / 65536 % 256), .int .u8 (h.2.1 / 256 % 256), .int .u8 (h.2.1 % 256), .int .u8 0, .int .u8 0, .int .u8 0, .int .u8 0, .int .u8 0, .int .u8 0, .int .u8 0, .int .u8 0, .int .u8 0, .int .u8 0, .int .u8 0, .int .u8 0]) HU1.out 7 (.int .u8 (h.2.1 % 256)) rfl)
            have HA22 := Aside0.mk (blk_far HA2.out (p := ⟨g6, 7, none⟩) N26 (.int .u8 (h.2.1 % 256)))
            have H42 := Aside0.mk (blk_far H4.out (p := ⟨g6, 7, none⟩) N46 (.int .u8 (h.2.1 % 256)))
            have B22 := Aside0.mk (below_set (j := 7) (v := .int .u8 (h.2.1 % 256)) BB.out G6)
            go_roundg go
            case measure => have := HK.out; omega
            case rel => exact ⟨8, by go_num, ⟨by have := HK.out; omega⟩, ⟨HU2.out⟩, HA22, H42, B22⟩
          · simp only [show ((8 : Nat) : Int) = 8 from rfl]
            have HU1 := Aside0.mk (show wr.heap[g6]? = some (.cells #[.int .u8 (h.1 / 16777216 % 256), .int .u8 (h.1 / 65536 % 256), .int .u8 (h.1 / 256 % 256), .int .u8 (h.1 % 256), .int .u8 (h.2.1 / 16777216 % 256), .int .u8 (h.2.1 / 65536 % 256), .int .u8 (h.2.1 / 256 % 256), .int .u8 (h.2.1 % 256), .int .u8 0, .int .u8 0, .int .u8 0, .int .u8 0, .int .u8 0, .int .u8 0, .int .u8 0, .int .u8 0, .int .u8 0, .int .u8 0, .int .u8 0, .int .u8 0] 23 (0, 0)) from HU.out)
            clear HU
            have u0 : wr.cell? ⟨g6, 8, none⟩ = some (.int .u8 0) := (blk_cell HU1.out 8).trans rfl
            have f0 := blk_frozen HU1.out 8
            have k0 : wr.cell? ⟨g4, 2, none⟩ = some (.int .u32 h.2.2.1) := (blk_cell H4.out 2).trans rfl
            go_wp2_with fail
            have HU2 := Aside0.mk (blk_put (cs' := #[.int .u8 (h.1 / 16777216 % 256), .int .u8 (h.1 / 65536 % 256), .int .u8 (h.1 / 256 % 256), .int .u8 (h.1 % 256), .int .u8 (h.2.1 / 16777216 % 256), .int .u8 (h.2.1 / 65536 % 256), .int .u8 (h.2.1 / 256 % 256), .int .u8 (h.2.1 % 256), .int .u8 (h.2.2.1 / 16777216 % 256), .int .u8 0, .int .u8 0, .int .u8 0, .int .u8 0, .int .u8 0, .int .u8 0, .int .u8 0, .int .u8 0, .int .u8 0, .int .u8 0, .int .u8 0]) HU1.out 8 (.int .u8 (h.2.2.1 / 16777216 % 256)) rfl)
            have HA22 := Aside0.mk (blk_far HA2.out (p := ⟨g6, 8, none⟩) N26 (.int .u8 (h.2.2.1 / 16777216 % 256)))
            have H42 := Aside0.mk (blk_far H4.out (p := ⟨g6, 8, none⟩) N46 (.int .u8 (h.2.2.1 / 16777216 % 256)))
            have B22 := Aside0.mk (below_set (j := 8) (v := .int .u8 (h.2.2.1 / 16777216 % 256)) BB.out G6)
            go_roundg go
            case measure => have := HK.out; omega
            case rel => exact ⟨9, by go_num, ⟨by have := HK.out; omega⟩, ⟨HU2.out⟩, HA22, H42, B22⟩
          · simp only [show ((9 : Nat) : Int) = 9 from rfl]
            have HU1 := Aside0.mk (show wr.heap[g6]? = some (.cells #[.int .u8 (h.1 / 16777216 % 256), .int .u8 (h.1 / 65536 % 256), .int .u8 (h.1 / 256 % 256), .int .u8 (h.1 % 256), .int .u8 (h.2.1 / 16777216 % 256), .int .u8 (h.2.1 / 65536 % 256), .int .u8 (h.2.1 / 256 % 256), .int .u8 (h.2.1 % 256), .int .u8 (h.2.2.1 / 16777216 % 256), .int .u8 0, .int .u8 0, .int .u8 0, .int .u8 0, .int .u8 0, .int .u8 0, .int .u8 0, .int .u8 0, .int .u8 0, .int .u8 0, .int .u8 0] 23 (0, 0)) from HU.out)
            clear HU
            have u0 : wr.cell? ⟨g6, 9, none⟩ = some (.int .u8 0) := (blk_cell HU1.out 9).trans rfl
            have f0 := blk_frozen HU1.out 9
            have k0 : wr.cell? ⟨g4, 2, none⟩ = some (.int .u32 h.2.2.1) := (blk_cell H4.out 2).trans rfl
            go_wp2_with fail
            have HU2 := Aside0.mk (blk_put (cs' := #[.int .u8 (h.1 / 16777216 % 256), .int .u8 (h.1 / 65536 % 256), .int .u8 (h.1 / 256 % 256), .int .u8 (h.1 % 256), .int .u8 (h.2.1 / 16777216 % 256), .int .u8 (h.2.1 / 65536 % 256), .int .u8 (h.2.1 / 256 % 256), .int .u8 (h.2.1 % 256), .int .u8 (h.2.2.1 / 16777216 % 256), .int .u8 (h.2.2.1 / 65536 % 256), .int .u8 0, .int .u8 0, .int .u8 0, .int .u8 0, .int .u8 0, .int .u8 0, .int .u8 0, .int .u8 0, .int .u8 0, .int .u8 0]) HU1.out 9 (.int .u8 (h.2.2.1 / 65536 % 256)) rfl)
            have HA22 := Aside0.mk (blk_far HA2.out (p := ⟨g6, 9, none⟩) N26 (.int .u8 (h.2.2.1 / 65536 % 256)))
            have H42 := Aside0.mk (blk_far H4.out (p := ⟨g6, 9, none⟩) N46 (.int .u8 (h.2.2.1 / 65536 % 256)))
            have B22 := Aside0.mk (below_set (j := 9) (v := .int .u8 (h.2.2.1 / 65536 % 256)) BB.out G6)
            go_roundg go
            case measure => have := HK.out; omega
            case rel => exact ⟨10, by go_num, ⟨by have := HK.out; omega⟩, ⟨HU2.out⟩, HA22, H42, B22⟩
          · simp only [show ((10 : Nat) : Int) = 10 from rfl]
            have HU1 := Aside0.mk (show wr.heap[g6]? = some (.cells #[.int .u8 (h.1 / 16777216 % 256), .int .u8 (h.1 / 65536 % 256), .int .u8 (h.1 / 256 % 256), .int .u8 (h.1 % 256), .int .u8 (h.2.1 / 16777216 % 256), .int .u8 (h.2.1 / 65536 % 256), .int .u8 (h.2.1 / 256 % 256), .int .u8 (h.2.1 % 256), .int .u8 (h.2.2.1 / 16777216 % 256), .int .u8 (h.2.2.1 / 65536 % 256), .int .u8 0, .int .u8 0, .int .u8 0, .int .u8 0, .int .u8 0, .int .u8 0, .int .u8 0, .int .u8 0, .int .u8 0, .int .u8 0] 23 (0, 0)) from HU.out)
            clear HU
            have u0 : wr.cell? ⟨g6, 10, none⟩ = some (.int .u8 0) := (blk_cell HU1.out 10).trans rfl
            have f0 := blk_frozen HU1.out 10
            have k0 : wr.cell? ⟨g4, 2, none⟩ = some (.int .u32 h.2.2.1) := (blk_cell H4.out 2).trans rfl
            go_wp2_with fail
            have HU2 := Aside0.mk (blk_put (cs' := #[.int .u8 (h.1 / 16777216 % 256), .int .u8 (h.1 / 65536 % 256), .int .u8 (h.1 / 256 % 256), .int .u8 (h.1 % 256), .int .u8 (h.2.1 / 16777216 % 256), .int .u8 (h.2.1 / 65536 % 256), .int .u8 (h.2.1 / 256 % 256), .int .u8 (h.2.1 % 256), .int .u8 (h.2.2.1 / 16777216 % 256), .int .u8 (h.2.2.1 / 65536 % 256), .int .u8 (h.2.2.1 / 256 % 256), .int .u8 0, .int .u8 0, .int .u8 0, .int .u8 0, .int .u8 0, .int .u8 0, .int .u8 0, .int .u8 0, .int .u8 0]) HU1.out 10 (.int .u8 (h.2.2.1 / 256 % 256)) rfl)
            have HA22 := Aside0.mk (blk_far HA2.out (p := ⟨g6, 10, none⟩) N26 (.int .u8 (h.2.2.1 / 256 % 256)))
            have H42 := Aside0.mk (blk_far H4.out (p := ⟨g6, 10, none⟩) N46 (.int .u8 (h.2.2.1 / 256 % 256)))
            have B22 := Aside0.mk (below_set (j := 10) (v := .int .u8 (h.2.2.1 / 256 % 256)) BB.out G6)
            go_roundg go
            case measure => have := HK.out; omega
            case rel => exact ⟨11, by go_num, ⟨by have := HK.out; omega⟩, ⟨HU2.out⟩, HA22, H42, B22⟩
          · simp only [show ((11 : Nat) : Int) = 11 from rfl]
            have HU1 := Aside0.mk (show wr.heap[g6]? = some (.cells #[.int .u8 (h.1 / 16777216 % 256), .int .u8 (h.1 / 65536 % 256), .int .u8 (h.1 / 256 % 256), .int .u8 (h.1 % 256), .int .u8 (h.2.1 / 16777216 % 256), .int .u8 (h.2.1 / 65536 % 256), .int .u8 (h.2.1 / 256 % 256), .int .u8 (h.2.1 % 256), .int .u8 (h.2.2.1 / 16777216 % 256), .int .u8 (h.2.2.1 / 65536 % 256), .int .u8 (h.2.2.1 / 256 % 256), .int .u8 0, .int .u8 0, .int .u8 0, .int .u8 0, .int .u8 0, .int .u8 0, .int .u8 0, .int .u8 0, .int .u8 0] 23 (0, 0)) from HU.out)
            clear HU
            have u0 : wr.cell? ⟨g6, 11, none⟩ = some (.int .u8 0) := (blk_cell HU1.out 11).trans rfl
            have f0 := blk_frozen HU1.out 11
            have k0 : wr.cell? ⟨g4, 2, none⟩ = some (.int .u32 h.2.2.1) := (blk_cell H4.out 2).trans rfl
            go_wp2_with fail
            have HU2 := Aside0.mk (blk_put (cs' := #[.int .u8 (h.1 / 16777216 % 256), .int .u8 (h.1 / 65536 % 256), .int .u8 (h.1 / 256 % 256), .int .u8 (h.1 % 256), .int .u8 (h.2.1 / 16777216 % 256), .int .u8 (h.2.1 / 65536 % 256), .int .u8 (h.2.1 / 256 % 256), .int .u8 (h.2.1 % 256), .int .u8 (h.2.2.1 / 16777216 % 256), .int .u8 (h.2.2.1 / 65536 % 256), .int .u8 (h.2.2.1 / 256 % 256), .int .u8 (h.2.2.1 % 256), .int .u8 0, .int .u8 0, .int .u8 0, .int .u8 0, .int .u8 0, .int .u8 0, .int .u8 0, .int .u8 0]) HU1.out 11 (.int .u8 (h.2.2.1 % 256)) rfl)
            have HA22 := Aside0.mk (blk_far HA2.out (p := ⟨g6, 11, none⟩) N26 (.int .u8 (h.2.2.1 % 256)))
            have H42 := Aside0.mk (blk_far H4.out (p := ⟨g6, 11, none⟩) N46 (.int .u8 (h.2.2.1 % 256)))
            have B22 := Aside0.mk (below_set (j := 11) (v := .int .u8 (h.2.2.1 % 256)) BB.out G6)
            go_roundg go
            case measure => have := HK.out; omega
            case rel => exact ⟨12, by go_num, ⟨by have := HK.out; omega⟩, ⟨HU2.out⟩, HA22, H42, B22⟩
          · simp only [show ((12 : Nat) : Int) = 12 from rfl]
            have HU1 := Aside0.mk (show wr.heap[g6]? = some (.cells #[.int .u8 (h.1 / 16777216 % 256), .int .u8 (h.1 / 65536 % 256), .int .u8 (h.1 / 256 % 256), .int .u8 (h.1 % 256), .int .u8 (h.2.1 / 16777216 % 256), .int .u8 (h.2.1 / 65536 % 256), .int .u8 (h.2.1 / 256 % 256), .int .u8 (h.2.1 % 256), .int .u8 (h.2.2.1 / 16777216 % 256), .int .u8 (h.2.2.1 / 65536 % 256), .int .u8 (h.2.2.1 / 256 % 256), .int .u8 (h.2.2.1 % 256), .int .u8 0, .int .u8 0, .int .u8 0, .int .u8 0, .int .u8 0, .int .u8 0, .int .u8 0, .int .u8 0] 23 (0, 0)) from HU.out)
            clear HU
            have u0 : wr.cell? ⟨g6, 12, none⟩ = some (.int .u8 0) := (blk_cell HU1.out 12).trans rfl
            have f0 := blk_frozen HU1.out 12
            have k0 : wr.cell? ⟨g4, 3, none⟩ = some (.int .u32 h.2.2.2.1) := (blk_cell H4.out 3).trans rfl
            go_wp2_with fail
            have HU2 := Aside0.mk (blk_put (cs' := #[.int .u8 (h.1 / 16777216 % 256), .int .u8 (h.1 / 65536 % 256), .int .u8 (h.1 / 256 % 256), .int .u8 (h.1 % 256), .int .u8 (h.2.1 / 16777216 % 256), .int .u8 (h.2.1 / 65536 % 256), .int .u8 (h.2.1 / 256 % 256), .int .u8 (h.2.1 % 256), .int .u8 (h.2.2.1 / 16777216 % 256), .int .u8 (h.2.2.1 / 65536 % 256), .int .u8 (h.2.2.1 / 256 % 256), .int .u8 (h.2.2.1 % 256), .int .u8 (h.2.2.2.1 / 16777216 % 256), .int .u8 0, .int .u8 0, .int .u8 0, .int .u8 0, .int .u8 0, .int .u8 0, .int .u8 0]) HU1.out 12 (.int .u8 (h.2.2.2.1 / 16777216 % 256)) rfl)
            have HA22 := Aside0.mk (blk_far HA2.out (p := ⟨g6, 12, none⟩) N26 (.int .u8 (h.2.2.2.1 / 16777216 % 256)))
            have H42 := Aside0.mk (blk_far H4.out (p := ⟨g6, 12, none⟩) N46 (.int .u8 (h.2.2.2.1 / 16777216 % 256)))
            have B22 := Aside0.mk (below_set (j := 12) (v := .int .u8 (h.2.2.2.1 / 16777216 % 256)) BB.out G6)
            go_roundg go
            case measure => have := HK.out; omega
            case rel => exact ⟨13, by go_num, ⟨by have := HK.out; omega⟩, ⟨HU2.out⟩, HA22, H42, B22⟩
          · simp only [show ((13 : Nat) : Int) = 13 from rfl]
            have HU1 := Aside0.mk (show wr.heap[g6]? = some (.cells #[.int .u8 (h.1 / 16777216 % 256), .int .u8 (h.1 / 65536 % 256), .int .u8 (h.1 / 256 % 256), .int .u8 (h.1 % 256), .int .u8 (h.2.1 / 16777216 % 256), .int .u8 (h.2.1 / 65536 % 256), .int .u8 (h.2.1 / 256 % 256), .int .u8 (h.2.1 % 256), .int .u8 (h.2.2.1 / 16777216 % 256), .int .u8 (h.2.2.1 / 65536 % 256), .int .u8 (h.2.2.1 / 256 % 256), .int .u8 (h.2.2.1 % 256), .int .u8 (h.2.2.2.1 / 16777216 % 256), .int .u8 0, .int .u8 0, .int .u8 0, .int .u8 0, .int .u8 0, .int .u8 0, .int .u8 0] 23 (0, 0)) from HU.out)
            clear HU
            have u0 : wr.cell? ⟨g6, 13, none⟩ = some (.int .u8 0) := (blk_cell HU1.out 13).trans rfl
            have f0 := blk_frozen HU1.out 13
            have k0 : wr.cell? ⟨g4, 3, none⟩ = some (.int .u32 h.2.2.2.1) := (blk_cell H4.out 3).trans rfl
            go_wp2_with fail
            have HU2 := Aside0.mk (blk_put (cs' := #[.int .u8 (h.1 / 16777216 % 256), .int .u8 (h.1 / 65536 % 256), .int .u8 (h.1 / 256 % 256), .int .u8 (h.1 % 256), .int .u8 (h.2.1 / 16777216 % 256), .int .u8 (h.2.1 / 65536 % 256), .int .u8 (h.2.1 / 256 % 256), .int .u8 (h.2.1 % 256), .int .u8 (h.2.2.1 / 16777216 % 256), .int .u8 (h.2.2.1 / 65536 % 256), .int .u8 (h.2.2.1 / 256 % 256), .int .u8 (h.2.2.1 % 256), .int .u8 (h.2.2.2.1 / 16777216 % 256), .int .u8 (h.2.2.2.1 / 65536 % 256), .int .u8 0, .int .u8 0, .int .u8 0, .int .u8 0, .int .u8 0, .int .u8 0]) HU1.out 13 (.int .u8 (h.2.2.2.1 / 65536 % 256)) rfl)
            have HA22 := Aside0.mk (blk_far HA2.out (p := ⟨g6, 13, none⟩) N26 (.int .u8 (h.2.2.2.1 / 65536 % 256)))
            have H42 := Aside0.mk (blk_far H4.out (p := ⟨g6, 13, none⟩) N46 (.int .u8 (h.2.2.2.1 / 65536 % 256)))
            have B22 := Aside0.mk (below_set (j := 13) (v := .int .u8 (h.2.2.2.1 / 65536 % 256)) BB.out G6)
            go_roundg go
            case measure => have := HK.out; omega
            case rel => exact ⟨14, by go_num, ⟨by have := HK.out; omega⟩, ⟨HU2.out⟩, HA22, H42, B22⟩
          · simp only [show ((14 : Nat) : Int) = 14 from rfl]
            have HU1 := Aside0.mk (show wr.heap[g6]? = some (.cells #[.int .u8 (h.1 / 16777216 % 256), .int .u8 (h.1 / 65536 % 256), .int .u8 (h.1 / 256 % 256), .int .u8 (h.1 % 256), .int .u8 (h.2.1 / 16777216 % 256), .int .u8 (h.2.1 / 65536 % 256), .int .u8 (h.2.1 / 256 % 256), .int .u8 (h.2.1 % 256), .int .u8 (h.2.2.1 / 16777216 % 256), .int .u8 (h.2.2.1 / 65536 % 256), .int .u8 (h.2.2.1 / 256 % 256), .int .u8 (h.2.2.1 % 256), .int .u8 (h.2.2.2.1 / 16777216 % 256), .int .u8 (h.2.2.2.1 / 65536 % 256), .int .u8 0, .int .u8 0, .int .u8 0, .int .u8 0, .int .u8 0, .int .u8 0] 23 (0, 0)) from HU.out)
            clear HU
            have u0 : wr.cell? ⟨g6, 14, none⟩ = some (.int .u8 0) := (blk_cell HU1.out 14).trans rfl
            have f0 := blk_frozen HU1.out 14
            have k0 : wr.cell? ⟨g4, 3, none⟩ = some (.int .u32 h.2.2.2.1) := (blk_cell H4.out 3).trans rfl
            go_wp2_with fail
            have HU2 := Aside0.mk (blk_put (cs' := #[.int .u8 (h.1 / 16777216 % 256), .int .u8 (h.1 / 65536 % 256), .int .u8 (h.1 / 256 % 256), .int .u8 (h.1 % 256), .int .u8 (h.2.1 / 16777216 % 256), .int .u8 (h.2.1 / 65536 % 256), .int .u8 (h.2.1 / 256 % 256), .int .u8 (h.2.1 % 256), .int .u8 (h.2.2.1 / 16777216 % 256), .int .u8 (h.2.2.1 / 65536 % 256), .int .u8 (h.2.2.1 / 256 % 256), .int .u8 (h.2.2.1 % 256), .int .u8 (h.2.2.2.1 / 16777216 % 256), .int .u8 (h.2.2.2.1 / 65536 % 256), .int .u8 (h.2.2.2.1 / 256 % 256), .int .u8 0, .int .u8 0, .int .u8 0, .int .u8 0, .int .u8 0]) HU1.out 14 (.int .u8 (h.2.2.2.1 / 256 % 256)) rfl)
            have HA22 := Aside0.mk (blk_far HA2.out (p := ⟨g6, 14, none⟩) N26 (.int .u8 (h.2.2.2.1 / 256 % 256)))
            have H42 := Aside0.mk (blk_far H4.out (p := ⟨g6, 14, none⟩) N46 (.int .u8 (h.2.2.2.1 / 256 % 256)))
            have B22 := Aside0.mk (below_set (j := 14) (v := .int .u8 (h.2.2.2.1 / 256 % 256)) BB.out G6)
            go_roundg go
            case measure => have := HK.out; omega
            case rel => exact ⟨15, by go_num, ⟨by have := HK.out; omega⟩, ⟨HU2.out⟩, HA22, H42, B22⟩
          · simp only [show ((15 : Nat) : Int) = 15 from rfl]
            have HU1 := Aside0.mk (show wr.heap[g6]? = some (.cells #[.int .u8 (h.1 / 16777216 % 256), .int .u8 (h.1 / 65536 % 256), .int .u8 (h.1 / 256 % 256), .int .u8 (h.1 % 256), .int .u8 (h.2.1 / 16777216 % 256), .int .u8 (h.2.1 / 65536 % 256), .int .u8 (h.2.1 / 256 % 256), .int .u8 (h.2.1 % 256), .int .u8 (h.2.2.1 / 16777216 % 256), .int .u8 (h.2.2.1 / 65536 % 256), .int .u8 (h.2.2.1 / 256 % 256), .int .u8 (h.2.2.1 % 256), .int .u8 (h.2.2.2.1 / 16777216 % 256), .int .u8 (h.2.2.2.1 / 65536 % 256), .int .u8 (h.2.2.2.1 / 256 % 256), .int .u8 0, .int .u8 0, .int .u8 0, .int .u8 0, .int .u8 0] 23 (0, 0)) from HU.out)
            clear HU
            have u0 : wr.cell? ⟨g6, 15, none⟩ = some (.int .u8 0) := (blk_cell HU1.out 15).trans rfl
            have f0 := blk_frozen HU1.out 15
            have k0 : wr.cell? ⟨g4, 3, none⟩ = some (.int .u32 h.2.2.2.1) := (blk_cell H4.out 3).trans rfl
            go_wp2_with fail
            have HU2 := Aside0.mk (blk_put (cs' := #[.int .u8 (h.1 / 16777216 % 256), .int .u8 (h.1 / 65536 % 256), .int .u8 (h.1 / 256 % 256), .int .u8 (h.1 % 256), .int .u8 (h.2.1 / 16777216 % 256), .int .u8 (h.2.1 / 65536 % 256), .int .u8 (h.2.1 / 256 % 256), .int .u8 (h.2.1 % 256), .int .u8 (h.2.2.1 / 16777216 % 256), .int .u8 (h.2.2.1 / 65536 % 256), .int .u8 (h.2.2.1 / 256 % 256), .int .u8 (h.2.2.1 % 256), .int .u8 (h.2.2.2.1 / 16777216 % 256), .int .u8 (h.2.2.2.1 / 65536 % 256), .int .u8 (h.2.2.2.1 / 256 % 256), .int .u8 (h.2.2.2.1 % 256), .int .u8 0, .int .u8 0, .int .u8 0, .int .u8 0]) HU1.out 15 (.int .u8 (h.2.2.2.1 % 256)) rfl)
            have HA22 := Aside0.mk (blk_far HA2.out (p := ⟨g6, 15, none⟩) N26 (.int .u8 (h.2.2.2.1 % 256)))
            have H42 := Aside0.mk (blk_far H4.out (p := ⟨g6, 15, none⟩) N46 (.int .u8 (h.2.2.2.1 % 256)))
            have B22 := Aside0.mk (below_set (j := 15) (v := .int .u8 (h.2.2.2.1 % 256)) BB.out G6)
            go_roundg go
            case measure => have := HK.out; omega
            case rel => exact ⟨16, by go_num, ⟨by have := HK.out; omega⟩, ⟨HU2.out⟩, HA22, H42, B22⟩
          · simp only [show ((16 : Nat) : Int) = 16 from rfl]
            have HU1 := Aside0.mk (show wr.heap[g6]? = some (.cells #[.int .u8 (h.1 / 16777216 % 256), .int .u8 (h.1 / 65536 % 256), .int .u8 (h.1 / 256 % 256), .int .u8 (h.1 % 256), .int .u8 (h.2.1 / 16777216 % 256), .int .u8 (h.2.1 / 65536 % 256), .int .u8 (h.2.1 / 256 % 256), .int .u8 (h.2.1 % 256), .int .u8 (h.2.2.1 / 16777216 % 256), .int .u8 (h.2.2.1 / 65536 % 256), .int .u8 (h.2.2.1 / 256 % 256), .int .u8 (h.2.2.1 % 256), .int .u8 (h.2.2.2.1 / 16777216 % 256), .int .u8 (h.2.2.2.1 / 65536 % 256), .int .u8 (h.2.2.2.1 / 256 % 256), .int .u8 (h.2.2.2.1 % 256), .int .u8 0, .int .u8 0, .int .u8 0, .int .u8 0] 23 (0, 0)) from HU.out)
            clear HU
            have u0 : wr.cell? ⟨g6, 16, none⟩ = some (.int .u8 0) := (blk_cell HU1.out 16).trans rfl
            have f0 := blk_frozen HU1.out 16
            have k0 : wr.cell? ⟨g4, 4, none⟩ = some (.int .u32 h.2.2.2.2) := (blk_cell H4.out 4).trans rfl
            go_wp2_with fail
            have HU2 := Aside0.mk (blk_put (cs' := #[.int .u8 (h.1 / 16777216 % 256), .int .u8 (h.1 / 65536 % 256), .int .u8 (h.1 / 256 % 256), .int .u8 (h.1 % 256), .int .u8 (h.2.1 / 16777216 % 256), .int .u8 (h.2.1 / 65536 % 256), .int .u8 (h.2.1 / 256 % 256), .int .u8 (h.2.1 % 256), .int .u8 (h.2.2.1 / 16777216 % 256), .int .u8 (h.2.2.1 / 65536 % 256), .int .u8 (h.2.2.1 / 256 % 256), .int .u8 (h.2.2.1 % 256), .int .u8 (h.2.2.2.1 / 16777216 % 256), .int .u8 (h.2.2.2.1 / 65536 % 256), .int .u8 (h.2.2.2.1 / 256 % 256), .int .u8 (h.2.2.2.1 % 256), .int .u8 (h.2.2.2.2 / 16777216 % 256), .int .u8 0, .int .u8 0, .int .u8 0]) HU1.out 16 (.int .u8 (h.2.2.2.2 / 16777216 % 256)) rfl)
            have HA22 := Aside0.mk (blk_far HA2.out (p := ⟨g6, 16, none⟩) N26 (.int .u8 (h.2.2.2.2 / 16777216 % 256)))
            have H42 := Aside0.mk (blk_far H4.out (p := ⟨g6, 16, none⟩) N46 (.int .u8 (h.2.2.2.2 / 16777216 % 256)))
            have B22 := Aside0.mk (below_set (j := 16) (v := .int .u8 (h.2.2.2.2 / 16777216 % 256)) BB.out G6)
            go_roundg go
            case measure => have := HK.out; omega
            case rel => exact ⟨17, by go_num, ⟨by have := HK.out; omega⟩, ⟨HU2.out⟩, HA22, H42, B22⟩
          · simp only [show ((17 : Nat) : Int) = 17 from rfl]
            have HU1 := Aside0.mk (show wr.heap[g6]? = some (.cells #[.int .u8 (h.1 / 16777216 % 256), .int .u8 (h.1 / 65536 % 256), .int .u8 (h.1 / 256 % 256), .int .u8 (h.1 % 256), .int .u8 (h.2.1 / 16777216 % 256), .int .u8 (h.2.1 / 65536 % 256), .int .u8 (h.2.1 / 256 % 256), .int .u8 (h.2.1 % 256), .int .u8 (h.2.2.1 / 16777216 % 256), .int .u8 (h.2.2.1 / 65536 % 256), .int .u8 (h.2.2.1 / 256 % 256), .int .u8 (h.2.2.1 % 256), .int .u8 (h.2.2.2.1 / 16777216 % 256), .int .u8 (h.2.2.2.1 / 65536 % 256), .int .u8 (h.2.2.2.1 / 256 % 256), .int .u8 (h.2.2.2.1 % 256), .int .u8 (h.2.2.2.2 / 16777216 % 256), .int .u8 0, .int .u8 0, .int .u8 0] 23 (0, 0)) from HU.out)
            clear HU
            have u0 : wr.cell? ⟨g6, 17, none⟩ = some (.int .u8 0) := (blk_cell HU1.out 17).trans rfl
            have f0 := blk_frozen HU1.out 17
            have k0 : wr.cell? ⟨g4, 4, none⟩ = some (.int .u32 h.2.2.2.2) := (blk_cell H4.out 4).trans rfl
            go_wp2_with fail
            have HU2 := Aside0.mk (blk_put (cs' := #[.int .u8 (h.1 / 16777216 % 256), .int .u8 (h.1 / 65536 % 256), .int .u8 (h.1 / 256 % 256), .int .u8 (h.1 % 256), .int .u8 (h.2.1 / 16777216 % 256), .int .u8 (h.2.1 / 65536 % 256), .int .u8 (h.2.1 / 256 % 256), .int .u8 (h.2.1 % 256), .int .u8 (h.2.2.1 / 16777216 % 256), .int .u8 (h.2.2.1 / 65536 % 256), .int .u8 (h.2.2.1 / 256 % 256), .int .u8 (h.2.2.1 % 256), .int .u8 (h.2.2.2.1 / 16777216 % 256), .int .u8 (h.2.2.2.1 / 65536 % 256), .int .u8 (h.2.2.2.1 / 256 % 256), .int .u8 (h.2.2.2.1 % 256), .int .u8 (h.2.2.2.2 / 16777216 % 256), .int .u8 (h.2.2.2.2 / 65536 % 256), .int .u8 0, .int .u8 0]) HU1.out 17 (.int .u8 (h.2.2.2.2 / 65536 % 256)) rfl)
            have HA22 := Aside0.mk (blk_far HA2.out (p := ⟨g6, 17, none⟩) N26 (.int .u8 (h.2.2.2.2 / 65536 % 256)))
            have H42 := Aside0.mk (blk_far H4.out (p := ⟨g6, 17, none⟩) N46 (.int .u8 (h.2.2.2.2 / 65536 % 256)))
            have B22 := Aside0.mk (below_set (j := 17) (v := .int .u8 (h.2.2.2.2 / 65536 % 256)) BB.out G6)
            go_roundg go
            case measure => have := HK.out; omega
            case rel => exact ⟨18, by go_num, ⟨by have := HK.out; omega⟩, ⟨HU2.out⟩, HA22, H42, B22⟩
          · simp only [show ((18 : Nat) : Int) = 18 from rfl]
            have HU1 := Aside0.mk (show wr.heap[g6]? = some (.cells #[.int .u8 (h.1 / 16777216 % 256), .int .u8 (h.1 / 65536 % 256), .int .u8 (h.1 / 256 % 256), .int .u8 (h.1 % 256), .int .u8 (h.2.1 / 16777216 % 256), .int .u8 (h.2.1 / 65536 % 256), .int .u8 (h.2.1 / 256 % 256), .int .u8 (h.2.1 % 256), .int .u8 (h.2.2.1 / 16777216 % 256), .int .u8 (h.2.2.1 / 65536 % 256), .int .u8 (h.2.2.1 / 256 % 256), .int .u8 (h.2.2.1 % 256), .int .u8 (h.2.2.2.1 / 16777216 % 256), .int .u8 (h.2.2.2.1 / 65536 % 256), .int .u8 (h.2.2.2.1 / 256 % 256), .int .u8 (h.2.2.2.1 % 256), .int .u8 (h.2.2.2.2 / 16777216 % 256), .int .u8 (h.2.2.2.2 / 65536 % 256), .int .u8 0, .int .u8 0] 23 (0, 0)) from HU.out)
            clear HU
            have u0 : wr.cell? ⟨g6, 18, none⟩ = some (.int .u8 0) := (blk_cell HU1.out 18).trans rfl
            have f0 := blk_frozen HU1.out 18
            have k0 : wr.cell? ⟨g4, 4, none⟩ = some (.int .u32 h.2.2.2.2) := (blk_cell H4.out 4).trans rfl
            go_wp2_with fail
            have HU2 := Aside0.mk (blk_put (cs' := #[.int .u8 (h.1 / 16777216 % 256), .int .u8 (h.1 / 65536 % 256), .int .u8 (h.1 / 256 % 256), .int .u8 (h.1 % 256), .int .u8 (h.2.1 / 16777216 % 256), .int .u8 (h.2.1 / 65536 % 256), .int .u8 (h.2.1 / 256 % 256), .int .u8 (h.2.1 % 256), .int .u8 (h.2.2.1 / 16777216 % 256), .int .u8 (h.2.2.1 / 65536 % 256), .int .u8 (h.2.2.1 / 256 % 256), .int .u8 (h.2.2.1 % 256), .int .u8 (h.2.2.2.1 / 16777216 % 256), .int .u8 (h.2.2.2.1 / 65536 % 256), .int .u8 (h.2.2.2.1 / 256 % 256), .int .u8 (h.2.2.2.1 % 256), .int .u8 (h.2.2.2.2 / 16777216 % 256), .int .u8 (h.2.2.2.2 / 65536 % 256), .int .u8 (h.2.2.2.2 / 256 % 256), .int .u8 0]) HU1.out 18 (.int .u8 (h.2.2.2.2 / 256 % 256)) rfl)
            have HA22 := Aside0.mk (blk_far HA2.out (p := ⟨g6, 18, none⟩) N26 (.int .u8 (h.2.2.2.2 / 256 % 256)))
            have H42 := Aside0.mk (blk_far H4.out (p := ⟨g6, 18, none⟩) N46 (.int .u8 (h.2.2.2.2 / 256 % 256)))
            have B22 := Aside0.mk (below_set (j := 18) (v := .int .u8 (h.2.2.2.2 / 256 % 256)) BB.out G6)
            go_roundg go
            case measure => have := HK.out; omega
            case rel => exact ⟨19, by go_num, ⟨by have := HK.out; omega⟩, ⟨HU2.out⟩, HA22, H42, B22⟩
          · simp only [show ((19 : Nat) : Int) = 19 from rfl]
            have HU1 := Aside0.mk (show wr.heap[g6]? = some (.cells #[.int .u8 (h.1 / 16777216 % 256), .int .u8 (h.1 / 65536 % 256), .int .u8 (h.1 / 256 % 256), .int .u8 (h.1 % 256), .int .u8 (h.2.1 / 16777216 % 256), .int .u8 (h.2.1 / 65536 % 256), .int .u8 (h.2.1 / 256 % 256), .int .u8 (h.2.1 % 256), .int .u8 (h.2.2.1 / 16777216 % 256), .int .u8 (h.2.2.1 / 65536 % 256), .int .u8 (h.2.2.1 / 256 % 256), .int .u8 (h.2.2.1 % 256), .int .u8 (h.2.2.2.1 / 16777216 % 256), .int .u8 (h.2.2.2.1 / 65536 % 256), .int .u8 (h.2.2.2.1 / 256 % 256), .int .u8 (h.2.2.2.1 % 256), .int .u8 (h.2.2.2.2 / 16777216 % 256), .int .u8 (h.2.2.2.2 / 65536 % 256), .int .u8 (h.2.2.2.2 / 256 % 256), .int .u8 0] 23 (0, 0)) from HU.out)
            clear HU
            have u0 : wr.cell? ⟨g6, 19, none⟩ = some (.int .u8 0) := (blk_cell HU1.out 19).trans rfl
            have f0 := blk_frozen HU1.out 19
            have k0 : wr.cell? ⟨g4, 4, none⟩ = some (.int .u32 h.2.2.2.2) := (blk_cell H4.out 4).trans rfl
            go_wp2_with fail
            have HU2 := Aside0.mk (blk_put (cs' := #[.int .u8 (h.1 / 16777216 % 256), .int .u8 (h.1 / 65536 % 256), .int .u8 (h.1 / 256 % 256), .int .u8 (h.1 % 256), .int .u8 (h.2.1 / 16777216 % 256), .int .u8 (h.2.1 / 65536 % 256), .int .u8 (h.2.1 / 256 % 256), .int .u8 (h.2.1 % 256), .int .u8 (h.2.2.1 / 16777216 % 256), .int .u8 (h.2.2.1 / 65536 % 256), .int .u8 (h.2.2.1 / 256 % 256), .int .u8 (h.2.2.1 % 256), .int .u8 (h.2.2.2.1 / 16777216 % 256), .int .u8 (h.2.2.2.1 / 65536 % 256), .int .u8 (h.2.2.2.1 / 256 % 256), .int .u8 (h.2.2.2.1 % 256), .int .u8 (h.2.2.2.2 / 16777216 % 256), .int .u8 (h.2.2.2.2 / 65536 % 256), .int .u8 (h.2.2.2.2 / 256 % 256), .int .u8 (h.2.2.2.2 % 256)]) HU1.out 19 (.int .u8 (h.2.2.2.2 % 256)) rfl)
            have HA22 := Aside0.mk (blk_far HA2.out (p := ⟨g6, 19, none⟩) N26 (.int .u8 (h.2.2.2.2 % 256)))
            have H42 := Aside0.mk (blk_far H4.out (p := ⟨g6, 19, none⟩) N46 (.int .u8 (h.2.2.2.2 % 256)))
            have B22 := Aside0.mk (below_set (j := 19) (v := .int .u8 (h.2.2.2.2 % 256)) BB.out G6)
            go_roundg go
            case measure => have := HK.out; omega
            case rel => exact ⟨20, by go_num, ⟨by have := HK.out; omega⟩, ⟨HU2.out⟩, HA22, H42, B22⟩
        · obtain rfl : i = 20 := by have := HK.out; omega
          simp only [show ((20 : Nat) : Int) = 20 from rfl]
          have HU5 := Aside0.mk (show wr.heap[g6]? = some (.cells #[.int .u8 (h.1 / 16777216 % 256), .int .u8 (h.1 / 65536 % 256), .int .u8 (h.1 / 256 % 256), .int .u8 (h.1 % 256), .int .u8 (h.2.1 / 16777216 % 256), .int .u8 (h.2.1 / 65536 % 256), .int .u8 (h.2.1 / 256 % 256), .int .u8 (h.2.1 % 256), .int .u8 (h.2.2.1 / 16777216 % 256), .int .u8 (h.2.2.1 / 65536 % 256), .int .u8 (h.2.2.1 / 256 % 256), .int .u8 (h.2.2.1 % 256), .int .u8 (h.2.2.2.1 / 16777216 % 256), .int .u8 (h.2.2.2.1 / 65536 % 256), .int .u8 (h.2.2.2.1 / 256 % 256), .int .u8 (h.2.2.2.1 % 256), .int .u8 (h.2.2.2.2 / 16777216 % 256), .int .u8 (h.2.2.2.2 / 65536 % 256), .int .u8 (h.2.2.2.2 / 256 % 256), .int .u8 (h.2.2.2.2 % 256)] 23 (0, 0)) from HU.out)
          clear HU
          go_wp2_with (first | ((with_reducible refine gate_dst (N := 45) rfl ?_); refine loadG_event (T := 23) (by rfl) rfl rfl (run_loadVar_row _ _ _ _ _ (0, 0) _ HU5.out Tryd.underlying23 rfl (by kernel_rfl)) ?_) | ((with_reducible refine gate_store (t := 23) (p := _) rfl ?_); refine storeN_event (T := 23) rfl rfl rfl rfl rfl (storeVar_blk HA2.out 23 0 [.int .u8 (h.1 / 16777216 % 256), .int .u8 (h.1 / 65536 % 256), .int .u8 (h.1 / 256 % 256), .int .u8 (h.1 % 256), .int .u8 (h.2.1 / 16777216 % 256), .int .u8 (h.2.1 / 65536 % 256), .int .u8 (h.2.1 / 256 % 256), .int .u8 (h.2.1 % 256), .int .u8 (h.2.2.1 / 16777216 % 256), .int .u8 (h.2.2.1 / 65536 % 256), .int .u8 (h.2.2.1 / 256 % 256), .int .u8 (h.2.2.1 % 256), .int .u8 (h.2.2.2.1 / 16777216 % 256), .int .u8 (h.2.2.2.1 / 65536 % 256), .int .u8 (h.2.2.2.1 / 256 % 256), .int .u8 (h.2.2.2.1 % 256), .int .u8 (h.2.2.2.2 / 16777216 % 256), .int .u8 (h.2.2.2.2 / 65536 % 256), .int .u8 (h.2.2.2.2 / 256 % 256), .int .u8 (h.2.2.2.2 % 256)] (by kernel_rfl) rfl (by simp)) ?_; have HA10 := Aside0.mk (show (World.setCells wr g1 0 [.int .u8 (h.1 / 16777216 % 256), .int .u8 (h.1 / 65536 % 256), .int .u8 (h.1 / 256 % 256), .int .u8 (h.1 % 256), .int .u8 (h.2.1 / 16777216 % 256), .int .u8 (h.2.1 / 65536 % 256), .int .u8 (h.2.1 / 256 % 256), .int .u8 (h.2.1 % 256), .int .u8 (h.2.2.1 / 16777216 % 256), .int .u8 (h.2.2.1 / 65536 % 256), .int .u8 (h.2.2.1 / 256 % 256), .int .u8 (h.2.2.1 % 256), .int .u8 (h.2.2.2.1 / 16777216 % 256), .int .u8 (h.2.2.2.1 / 65536 % 256), .int .u8 (h.2.2.2.1 / 256 % 256), .int .u8 (h.2.2.2.1 % 256), .int .u8 (h.2.2.2.2 / 16777216 % 256), .int .u8 (h.2.2.2.2 / 65536 % 256), .int .u8 (h.2.2.2.2 / 256 % 256), .int .u8 (h.2.2.2.2 % 256)]).heap[g1]? = some (.cells #[.int .u8 (h.1 / 16777216 % 256), .int .u8 (h.1 / 65536 % 256), .int .u8 (h.1 / 256 % 256), .int .u8 (h.1 % 256), .int .u8 (h.2.1 / 16777216 % 256), .int .u8 (h.2.1 / 65536 % 256), .int .u8 (h.2.1 / 256 % 256), .int .u8 (h.2.1 % 256), .int .u8 (h.2.2.1 / 16777216 % 256), .int .u8 (h.2.2.1 / 65536 % 256), .int .u8 (h.2.2.1 / 256 % 256), .int .u8 (h.2.2.1 % 256), .int .u8 (h.2.2.2.1 / 16777216 % 256), .int .u8 (h.2.2.2.1 / 65536 % 256), .int .u8 (h.2.2.2.1 / 256 % 256), .int .u8 (h.2.2.2.1 % 256), .int .u8 (h.2.2.2.2 / 16777216 % 256), .int .u8 (h.2.2.2.2 / 65536 % 256), .int .u8 (h.2.2.2.2 / 256 % 256), .int .u8 (h.2.2.2.2 % 256)] 23 (0, 0)) from blk_setCells [] [.int .u8 (h.1 / 16777216 % 256), .int .u8 (h.1 / 65536 % 256), .int .u8 (h.1 / 256 % 256), .int .u8 (h.1 % 256), .int .u8 (h.2.1 / 16777216 % 256), .int .u8 (h.2.1 / 65536 % 256), .int .u8 (h.2.1 / 256 % 256), .int .u8 (h.2.1 % 256), .int .u8 (h.2.2.1 / 16777216 % 256), .int .u8 (h.2.2.1 / 65536 % 256), .int .u8 (h.2.2.1 / 256 % 256), .int .u8 (h.2.2.1 % 256), .int .u8 (h.2.2.2.1 / 16777216 % 256), .int .u8 (h.2.2.2.1 / 65536 % 256), .int .u8 (h.2.2.2.1 / 256 % 256), .int .u8 (h.2.2.2.1 % 256), .int .u8 (h.2.2.2.2 / 16777216 % 256), .int .u8 (h.2.2.2.2 / 65536 % 256), .int .u8 (h.2.2.2.2 / 256 % 256), .int .u8 (h.2.2.2.2 % 256)] [.int .u8 0, .int .u8 0, .int .u8 0, .int .u8 0, .int .u8 0, .int .u8 0, .int .u8 0, .int .u8 0, .int .u8 0, .int .u8 0, .int .u8 0, .int .u8 0, .int .u8 0, .int .u8 0, .int .u8 0, .int .u8 0, .int .u8 0, .int .u8 0, .int .u8 0, .int .u8 0] [] wr rfl HA2.out); have B10 := Aside0.mk (below_setCells G3 [.int .u8 (h.1 / 16777216 % 256), .int .u8 (h.1 / 65536 % 256), .int .u8 (h.1 / 256 % 256), .int .u8 (h.1 % 256), .int .u8 (h.2.1 / 16777216 % 256), .int .u8 (h.2.1 / 65536 % 256), .int .u8 (h.2.1 / 256 % 256), .int .u8 (h.2.1 % 256), .int .u8 (h.2.2.1 / 16777216 % 256), .int .u8 (h.2.2.1 / 65536 % 256), .int .u8 (h.2.2.1 / 256 % 256), .int .u8 (h.2.2.1 % 256), .int .u8 (h.2.2.2.1 / 16777216 % 256), .int .u8 (h.2.2.2.1 / 65536 % 256), .int .u8 (h.2.2.2.1 / 256 % 256), .int .u8 (h.2.2.2.1 % 256), .int .u8 (h.2.2.2.2 / 16777216 % 256), .int .u8 (h.2.2.2.2 / 65536 % 256), .int .u8 (h.2.2.2.2 / 256 % 256), .int .u8 (h.2.2.2.2 % 256)] 0 wr BB.out)))
          rw [← HFD.out]
          exact bodyPost_ret (results_cell_row rfl _ _ g1 23 #[.int .u8 (h.1 / 16777216 % 256), .int .u8 (h.1 / 65536 % 256), .int .u8 (h.1 / 256 % 256), .int .u8 (h.1 % 256), .int .u8 (h.2.1 / 16777216 % 256), .int .u8 (h.2.1 / 65536 % 256), .int .u8 (h.2.1 / 256 % 256), .int .u8 (h.2.1 % 256), .int .u8 (h.2.2.1 / 16777216 % 256), .int .u8 (h.2.2.1 / 65536 % 256), .int .u8 (h.2.2.1 / 256 % 256), .int .u8 (h.2.2.1 % 256), .int .u8 (h.2.2.2.1 / 16777216 % 256), .int .u8 (h.2.2.2.1 / 65536 % 256), .int .u8 (h.2.2.2.1 / 256 % 256), .int .u8 (h.2.2.2.1 % 256), .int .u8 (h.2.2.2.2 / 16777216 % 256), .int .u8 (h.2.2.2.2 / 65536 % 256), .int .u8 (h.2.2.2.2 / 256 % 256), .int .u8 (h.2.2.2.2 % 256)] (0, 0) _ rfl HA10.out Tryd.underlying23 rfl (by kernel_rfl)) rfl ⟨rfl, B10.out⟩
end Go.Proofs.YtbldecdipicddaaDoor.Hand
