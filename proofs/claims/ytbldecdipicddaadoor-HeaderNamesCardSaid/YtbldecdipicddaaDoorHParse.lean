/- The contract of header.Parse (under way). Written by wip/s1/mkparse.py. -/
import Derived.Test.YtbldecdipicddaaDoorStores
import Derived.Test.YtbldecdipicddaaDoorHShort
import Derived.StillTailTactics
namespace Go.Proofs.YtbldecdipicddaaDoor.Hand
open Go Go.RowKit Go.Proofs.YtbldecdipicddaaDoorW.PrintWords Go.Proofs.YtbldecdipicddaaDoorW.PrintLast Go.Proofs.YtbldecdipicddaaDoorW.PrintMore
theorem still_tail {P : Program} {id : Nat} {Q : Exit → Act → World → Prop} {a : Act} {w : World} {l : List Oper} (n : Nat) (hm : P.follows .mixedOrders = true) (hB : Region.lexTailB .any l.toArray n = true)
    (h : ∀ w5, w5 = w.drew → wpStill P l.toArray w5 (fun a' => wpList P l.toArray Q (l.drop n) a' w5) (l.take n) a) : (Code.region id l.toArray true).wp P Q a w := wp_region_still_tail n hm hB (h _ rfl)
theorem C_src {k : IntKind} {w : World} {ad : Addr} {n : Nat} {xs : List Int} (h : Kd.C (Kd.int k) w (some ad) n xs) : ∀ (j : Nat) (v : Value), (xs.map (Value.int k))[j]? = some v → w.cell? (ad.add j) = some v := by
  intro j v hv
  rw [List.getElem?_map] at hv
  obtain ⟨x, hx, rfl⟩ := Option.map_eq_some_iff.1 hv
  have hj : j < xs.length := (List.getElem?_eq_some_iff.1 hx).1
  obtain ⟨ad', e, hc⟩ := Cint_at h j hj
  cases e
  rw [hc, List.getD_eq_getElem?_getD, hx]
  rfl
theorem list20 (l : List Int) (h : l.length = 20) : ∃ s0 s1 s2 s3 s4 s5 s6 s7 s8 s9 s10 s11 s12 s13 s14 s15 s16 s17 s18 s19, l = [s0, s1, s2, s3, s4, s5, s6, s7, s8, s9, s10, s11, s12, s13, s14, s15, s16, s17, s18, s19] := by
  match l, h with
  | [s0, s1, s2, s3, s4, s5, s6, s7, s8, s9, s10, s11, s12, s13, s14, s15, s16, s17, s18, s19], _ => exact ⟨_, _, _, _, _, _, _, _, _, _, _, _, _, _, _, _, _, _, _, _, rfl⟩
theorem drop8 (l : List Int) (h : l.length = 28) : l.drop 8 = [l.getD 8 0, l.getD 9 0, l.getD 10 0, l.getD 11 0, l.getD 12 0, l.getD 13 0, l.getD 14 0, l.getD 15 0, l.getD 16 0, l.getD 17 0, l.getD 18 0, l.getD 19 0, l.getD 20 0, l.getD 21 0, l.getD 22 0, l.getD 23 0, l.getD 24 0, l.getD 25 0, l.getD 26 0, l.getD 27 0] := by
  match l, h with
  | [x0, x1, x2, x3, x4, x5, x6, x7, s0, s1, s2, s3, s4, s5, s6, s7, s8, s9, s10, s11, s12, s13, s14, s15, s16, s17, s18, s19], _ => rfl
/-- A number with one more byte behind it. -/
def sh (x b : Int) : Int := Go.bits .or .i64 (wrap64 (x * 256)) (wrap64 b)
/-- A number out of so many bytes. -/
def num (l : List Int) (j : Nat) : Nat → Int
  | 0 => 0
  | k + 1 => sh (num l j k) ((l.drop (j + k)).getD 0 0)
/-- The numbers, when so many are read. -/
def nums (l : List Int) : Nat → List Int
  | 0 => [0, 0, 0, 0, 0]
  | 1 => [num l 0 1, 0, 0, 0, 0]
  | 2 => [num l 0 1, num l 1 1, 0, 0, 0]
  | 3 => [num l 0 1, num l 1 1, num l 2 2, 0, 0]
  | 4 => [num l 0 1, num l 1 1, num l 2 2, num l 4 2, 0]
  | _ => [num l 0 1, num l 1 1, num l 2 2, num l 4 2, num l 6 2]
set_option maxHeartbeats 3200000 in
set_option maxRecDepth 100000 in
theorem Parse_calls (A : Option Addr) (c : Nat) (l : List Int) (w : World) (hT : TabW w) (hr : Kd.C (Kd.int .u8) w A l.length l) (hc : l.length ≤ c) (hl : l.length = 28) (s0 s1 s2 s3 s4 s5 s6 s7 s8 s9 s10 s11 s12 s13 s14 s15 s16 s17 s18 s19 r : Int) (hS8 : l.drop 8 = [s0, s1, s2, s3, s4, s5, s6, s7, s8, s9, s10, s11, s12, s13, s14, s15, s16, s17, s18, s19])
    (hchk : ∀ W : World, Calls Tryd.prog 25 #[.agg #[.int .u8 (num l 0 1 % 256), .int .i64 (num l 1 1), .int .i64 (num l 2 2), .int .i64 (num l 4 2), .int .i64 (num l 6 2), .int .u8 s0, .int .u8 s1, .int .u8 s2, .int .u8 s3, .int .u8 s4, .int .u8 s5, .int .u8 s6, .int .u8 s7, .int .u8 s8, .int .u8 s9, .int .u8 s10, .int .u8 s11, .int .u8 s12, .int .u8 s13, .int .u8 s14, .int .u8 s15, .int .u8 s16, .int .u8 s17, .int .u8 s18, .int .u8 s19]] W fun e w' => e = .returned (.int .i64 r) ∧ Below W.heap.size W w') :
    Calls Tryd.prog 23 #[.slice A l.length c] w fun e w' => e = .returned (.tuple #[.agg (if r = 0 then #[.int .u8 (num l 0 1 % 256), .int .i64 (num l 1 1), .int .i64 (num l 2 2), .int .i64 (num l 4 2), .int .i64 (num l 6 2), .int .u8 s0, .int .u8 s1, .int .u8 s2, .int .u8 s3, .int .u8 s4, .int .u8 s5, .int .u8 s6, .int .u8 s7, .int .u8 s8, .int .u8 s9, .int .u8 s10, .int .u8 s11, .int .u8 s12, .int .u8 s13, .int .u8 s14, .int .u8 s15, .int .u8 s16, .int .u8 s17, .int .u8 s18, .int .u8 s19] else #[.int .u8 0, .int .i64 0, .int .i64 0, .int .i64 0, .int .i64 0, .int .u8 0, .int .u8 0, .int .u8 0, .int .u8 0, .int .u8 0, .int .u8 0, .int .u8 0, .int .u8 0, .int .u8 0, .int .u8 0, .int .u8 0, .int .u8 0, .int .u8 0, .int .u8 0, .int .u8 0, .int .u8 0, .int .u8 0, .int .u8 0, .int .u8 0, .int .u8 0]), .int .i64 (if r = 0 then 0 else 12)]) ∧ Below w.heap.size w w' := by
  have HCK := Aside0.mk hchk
  have HSS := Aside0.mk hS8
  clear hchk hS8
  have HT := Aside0.mk hT
  have HR := Aside0.mk hr
  have HC := Aside0.mk hc
  clear hT hr hc
  have hne : (((l.length : Nat) : Int) != 28) = false := by rw [hl]; rfl
  have hne2 : decide (((l.length : Nat) : Int) = 28) = true := by rw [hl]; rfl
  go_enter Tryd.func23, Tryd.ntmps23
  go_wp2_with (first | ((with_reducible refine gate_dst (N := 2) rfl ?_); refine box_event ?hg (N := 2) ?hd (cs := #[.int .u8 0, .int .i64 0, .int .i64 0, .int .i64 0, .int .i64 0, .int .u8 0, .int .u8 0, .int .u8 0, .int .u8 0, .int .u8 0, .int .u8 0, .int .u8 0, .int .u8 0, .int .u8 0, .int .u8 0, .int .u8 0, .int .u8 0, .int .u8 0, .int .u8 0, .int .u8 0, .int .u8 0, .int .u8 0, .int .u8 0, .int .u8 0, .int .u8 0]) (t := 25) ?hr ?_; (case hd => rfl); (case hg => rfl); (case hr => first | (go_simp; done) | (go_simp; rfl)); intro gA hgA wA hA hbA; have HA := Aside0.mk hA; have BA := Aside0.mk hbA; have GA : w.heap.size ≤ gA := Nat.le_of_eq hgA.symm; clear hA hbA hgA) | ((with_reducible refine gate_dst (N := 4) rfl ?_); refine box_event ?hg (N := 4) ?hd (cs := #[.int .i64 0, .int .i64 0, .int .i64 0, .int .i64 0, .int .i64 0]) (t := 98) ?hr ?_; (case hd => rfl); (case hg => rfl); (case hr => first | (go_simp; done) | (go_simp; rfl)); intro gB hgB wB hB hbB; have HB := Aside0.mk hB; have HA1 := Aside0.mk (blk_below HA.out hbB); have B1 := Aside0.mk (below_step BA.out hbB); have NB : gA ≠ gB := Nat.ne_of_lt (Nat.lt_of_lt_of_eq (blk_lt HA.out) hgB.symm); have GB : w.heap.size ≤ gB := Nat.le_trans BA.out.size (Nat.le_of_eq hgB.symm); have tcB := HT.out.at B1.out; have t0 := tcB.c0; have t1 := tcB.c1; have t2 := tcB.c2; have t3 := tcB.c3; have t4 := tcB.c4; clear tcB hB hbB hgB HA BA) | ((with_reducible refine gate_dst (N := _) rfl ?_); refine loadN_event (T := 98) rfl rfl rfl (run_loadVar_98_0 t0 t1 t2 t3 t4) ?_))
  go_loopg [0, 13] 5 (fun n v0 v13 w' => ∃ (i j : Nat) (A' : Option Addr) (c' : Nat) (n0 n1 n2 n3 n4 : Int), v13 = .int .i64 (i : Int) ∧ v0 = .slice A' (28 - j) c' ∧ Aside0 (i + n = 5) ∧ Aside0 (j = [0, 1, 2, 4, 6, 8].getD i 8) ∧ Aside0 ([n0, n1, n2, n3, n4] = nums l i) ∧ Aside0 (Kd.C (Kd.int .u8) w A' (l.drop j).length (l.drop j)) ∧ Aside0 ((l.drop j).length ≤ c') ∧ Aside0 (w'.heap[gA]? = some (.cells #[.int .u8 0, .int .i64 0, .int .i64 0, .int .i64 0, .int .i64 0, .int .u8 0, .int .u8 0, .int .u8 0, .int .u8 0, .int .u8 0, .int .u8 0, .int .u8 0, .int .u8 0, .int .u8 0, .int .u8 0, .int .u8 0, .int .u8 0, .int .u8 0, .int .u8 0, .int .u8 0, .int .u8 0, .int .u8 0, .int .u8 0, .int .u8 0, .int .u8 0] 25 (0, 0))) ∧ Aside0 (w'.heap[gB]? = some (.cells #[.int .i64 n0, .int .i64 n1, .int .i64 n2, .int .i64 n3, .int .i64 n4] 98 (0, 0))) ∧ Aside0 (Below w.heap.size w w'))
  case atStart => exact ⟨0, 0, A, c, 0, 0, 0, 0, 0, rfl, rfl, ⟨rfl⟩, ⟨rfl⟩, ⟨rfl⟩, HR, HC, HA1, HB, B1⟩
  case round =>
    clear t0 t1 t2 t3 t4 HA1 HB B1
    obtain ⟨i, j, A', c', n0, n1, n2, n3, n4, rfl, rfl, HK, HJ, HN, HC2, HL2, HA, HB, BB⟩ := hrel
    by_cases hk : i < 5
    · obtain ⟨go, rfl⟩ : ∃ j, gk = j + 1 := ⟨gk - 1, by have := HK.out; omega⟩
      obtain rfl | rfl | rfl | rfl | rfl : i = 0 ∨ i = 1 ∨ i = 2 ∨ i = 3 ∨ i = 4 := by omega
      · obtain rfl : j = 0 := HJ.out
        have hn := HN.out
        simp only [nums, List.cons.injEq, and_true] at hn
        obtain ⟨rfl, rfl, rfl, rfl, rfl⟩ := hn
        clear HN HJ
        simp only [show ((0 : Nat) : Int) = 0 from rfl]
        go_wp2_with fail
        go_loopg [0, 18] 1 (fun n v0 v18 w' => ∃ (k : Nat) (A' : Option Addr) (c' : Nat) (x : Int), v18 = .int .i64 (k : Int) ∧ v0 = .slice A' (28 - (0 + k)) c' ∧ Aside0 (k + n = 1) ∧ Aside0 (x = num l 0 k) ∧ Aside0 (Kd.C (Kd.int .u8) w A' (l.drop (0 + k)).length (l.drop (0 + k))) ∧ Aside0 ((l.drop (0 + k)).length ≤ c') ∧ Aside0 (w'.heap[gA]? = some (.cells #[.int .u8 0, .int .i64 0, .int .i64 0, .int .i64 0, .int .i64 0, .int .u8 0, .int .u8 0, .int .u8 0, .int .u8 0, .int .u8 0, .int .u8 0, .int .u8 0, .int .u8 0, .int .u8 0, .int .u8 0, .int .u8 0, .int .u8 0, .int .u8 0, .int .u8 0, .int .u8 0, .int .u8 0, .int .u8 0, .int .u8 0, .int .u8 0, .int .u8 0] 25 (0, 0))) ∧ Aside0 (w'.heap[gB]? = some (.cells #[.int .i64 x, .int .i64 (0), .int .i64 (0), .int .i64 (0), .int .i64 (0)] 98 (0, 0))) ∧ Aside0 (Below w.heap.size w w'))
        case atStart => exact ⟨0, A', c', 0, rfl, rfl, ⟨rfl⟩, ⟨rfl⟩, HC2, HL2, HA, HB, BB⟩
        case round =>
          clear HC2 HL2 HA HB BB
          obtain ⟨k, A', c', x, rfl, rfl, HK2, HX, HC2, HL2, HA, HB, BB⟩ := hrel
          by_cases hk2 : k < 1
          · obtain ⟨gk2, rfl⟩ : ∃ j, gk = j + 1 := ⟨gk - 1, by have := HK2.out; omega⟩
            have hdl : 0 < (l.drop (0 + k)).length := by rw [List.length_drop, hl]; omega
            obtain ⟨ad, rfl, hcell⟩ := Cint_at HC2.out 0 hdl
            clear hcell
            go_wp2_with fail
            refine still_tail 10 (by kernel_rfl) (by kernel_rfl) (fun w5 hw5 => ?_)
            have HA5 := Aside0.mk (show w5.heap[gA]? = some (.cells #[.int .u8 0, .int .i64 0, .int .i64 0, .int .i64 0, .int .i64 0, .int .u8 0, .int .u8 0, .int .u8 0, .int .u8 0, .int .u8 0, .int .u8 0, .int .u8 0, .int .u8 0, .int .u8 0, .int .u8 0, .int .u8 0, .int .u8 0, .int .u8 0, .int .u8 0, .int .u8 0, .int .u8 0, .int .u8 0, .int .u8 0, .int .u8 0, .int .u8 0] 25 (0, 0)) by rw [hw5]; exact HA.out)
            have HB5 := Aside0.mk (show w5.heap[gB]? = some (.cells #[.int .i64 x, .int .i64 (0), .int .i64 (0), .int .i64 (0), .int .i64 (0)] 98 (0, 0)) by rw [hw5]; exact HB.out)
            have B5 := Aside0.mk (show Below w.heap.size w w5 by rw [hw5]; exact below_drew BB.out)
            have HC5 := Aside0.mk (show Kd.C (Kd.int .u8) w5 (some ad) (l.drop (0 + k)).length (l.drop (0 + k)) from Kd.C_below HC2.out B5.out)
            clear hw5 HA HB BB
            obtain ⟨ad', e, hcell⟩ := Cint_at HC5.out 0 hdl
            cases e
            obtain ⟨bt, hbt⟩ : ∃ b : Int, b = (l.drop (0 + k)).getD 0 0 := ⟨_, rfl⟩
            rw [← hbt] at hcell
            have HBT := Aside0.mk hbt
            clear hbt
            have b0 : w5.cell? ⟨gB, 0, none⟩ = some (.int .i64 x) := (blk_cell HB5.out 0).trans rfl
            have bf0 := blk_frozen HB5.out 0
            simp only [List.take_succ_cons, List.take_zero, List.drop_succ_cons, List.drop_zero]
            have hpos : (0 < 28 - (0 + k)) = True := eq_true (by omega)
            have hp2 : (0 + k < 28) = True := eq_true (by omega)
            have hp3 : (k < 28) = True := eq_true (by omega)
            have hp4 : ((0 : Int) < ((28 - (0 + k) : Nat) : Int)) = True := eq_true (by omega)
            have hp5 : ((0 : Int) < ((28 - k : Nat) : Int)) = True := eq_true (by omega)
            have hp6 : (0 < 28 - k) = True := eq_true (by omega)
            have hcell0 := hcell
            (try rw [Addr.add_zero'] at hcell0)
            repeat still_step
            try refine wpStill_nil ?_
            clear hcell hcell0
            obtain ⟨i0, hi0, _, hsz, _⟩ := info_parts info5p
            have hroom : 28 - (0 + k) ≤ c' := by have := HL2.out; rw [List.length_drop, hl] at this; exact this
            obtain ⟨A2, hA2⟩ : ∃ A2 : Option Addr, A2 = (if c' = 1 then some ad else (some ad).map (·.add (1 * 1))) := ⟨_, rfl⟩
            have hcut : ∀ W : World, (Instr.slice 26 (.slice (some ad) (28 - (0 + k)) c') (some (.int .i64 1)) none none).run Tryd.prog W = .ok (.slice A2 (28 - (0 + k) - 1) (c' - 1)) W := by
              rw [hA2]
              exact cut_from (P := Tryd.prog) 26 5 .i64 Tryd.underlying26 hi0 1 hsz (some ad) (28 - (0 + k)) c' 1 (by omega) (by omega)
            have HC6 := Aside0.mk (show Kd.C (Kd.int .u8) w A2 (l.drop (0 + (k + 1))).length (l.drop (0 + (k + 1))) by
              rw [hA2, show l.drop (0 + (k + 1)) = (l.drop (0 + k)).drop 1 by rw [List.drop_drop]; rfl]
              exact Kd.C_drop (m := 1) HC2.out (by omega) HL2.out)
            clear hA2
            have hz : 28 - (0 + k) = 28 - k := by omega
            (try rw [hz] at hcut)
            have hx : x = num l 0 k := HX.out
            go_wp2_with fail
            go_roundg gk2
            case measure => have := HK2.out; omega
            case rel => exact ⟨k + 1, A2, c' - 1, _, by go_num, (by first | rfl | (congr 1; omega)), ⟨by have := HK2.out; omega⟩, ⟨by rw [HBT.out]; rfl⟩, HC6, ⟨by have := HL2.out; rw [List.length_drop, hl] at *; omega⟩, ⟨blk_far HA5.out NB _⟩, ⟨blk_put HB5.out 0 _ rfl⟩, ⟨below_set B5.out GB⟩⟩
          · obtain rfl : k = 1 := by have := HK2.out; omega
            simp only [show ((1 : Nat) : Int) = 1 from rfl]
            go_wp2_with fail
            go_roundg go
            case measure => have := HK.out; omega
            case rel => exact ⟨1, 1, A', c', x, _, _, _, _, by go_num, (by first | rfl | (congr 1; omega)), ⟨by have := HK.out; omega⟩, ⟨rfl⟩, ⟨by rw [HX.out]; rfl⟩, HC2, HL2, HA, HB, BB⟩
      · obtain rfl : j = 1 := HJ.out
        have hn := HN.out
        simp only [nums, List.cons.injEq, and_true] at hn
        obtain ⟨rfl, rfl, rfl, rfl, rfl⟩ := hn
        clear HN HJ
        simp only [show ((1 : Nat) : Int) = 1 from rfl]
        go_wp2_with fail
        go_loopg [0, 18] 1 (fun n v0 v18 w' => ∃ (k : Nat) (A' : Option Addr) (c' : Nat) (x : Int), v18 = .int .i64 (k : Int) ∧ v0 = .slice A' (28 - (1 + k)) c' ∧ Aside0 (k + n = 1) ∧ Aside0 (x = num l 1 k) ∧ Aside0 (Kd.C (Kd.int .u8) w A' (l.drop (1 + k)).length (l.drop (1 + k))) ∧ Aside0 ((l.drop (1 + k)).length ≤ c') ∧ Aside0 (w'.heap[gA]? = some (.cells #[.int .u8 0, .int .i64 0, .int .i64 0, .int .i64 0, .int .i64 0, .int .u8 0, .int .u8 0, .int .u8 0, .int .u8 0, .int .u8 0, .int .u8 0, .int .u8 0, .int .u8 0, .int .u8 0, .int .u8 0, .int .u8 0, .int .u8 0, .int .u8 0, .int .u8 0, .int .u8 0, .int .u8 0, .int .u8 0, .int .u8 0, .int .u8 0, .int .u8 0] 25 (0, 0))) ∧ Aside0 (w'.heap[gB]? = some (.cells #[.int .i64 (num l 0 1), .int .i64 x, .int .i64 (0), .int .i64 (0), .int .i64 (0)] 98 (0, 0))) ∧ Aside0 (Below w.heap.size w w'))
        case atStart => exact ⟨0, A', c', 0, rfl, rfl, ⟨rfl⟩, ⟨rfl⟩, HC2, HL2, HA, HB, BB⟩
        case round =>
          clear HC2 HL2 HA HB BB
          obtain ⟨k, A', c', x, rfl, rfl, HK2, HX, HC2, HL2, HA, HB, BB⟩ := hrel
          by_cases hk2 : k < 1
          · obtain ⟨gk2, rfl⟩ : ∃ j, gk = j + 1 := ⟨gk - 1, by have := HK2.out; omega⟩
            have hdl : 0 < (l.drop (1 + k)).length := by rw [List.length_drop, hl]; omega
            obtain ⟨ad, rfl, hcell⟩ := Cint_at HC2.out 0 hdl
            clear hcell
            go_wp2_with fail
            refine still_tail 10 (by kernel_rfl) (by kernel_rfl) (fun w5 hw5 => ?_)
            have HA5 := Aside0.mk (show w5.heap[gA]? = some (.cells #[.int .u8 0, .int .i64 0, .int .i64 0, .int .i64 0, .int .i64 0, .int .u8 0, .int .u8 0, .int .u8 0, .int .u8 0, .int .u8 0, .int .u8 0, .int .u8 0, .int .u8 0, .int .u8 0, .int .u8 0, .int .u8 0, .int .u8 0, .int .u8 0, .int .u8 0, .int .u8 0, .int .u8 0, .int .u8 0, .int .u8 0, .int .u8 0, .int .u8 0] 25 (0, 0)) by rw [hw5]; exact HA.out)
            have HB5 := Aside0.mk (show w5.heap[gB]? = some (.cells #[.int .i64 (num l 0 1), .int .i64 x, .int .i64 (0), .int .i64 (0), .int .i64 (0)] 98 (0, 0)) by rw [hw5]; exact HB.out)
            have B5 := Aside0.mk (show Below w.heap.size w w5 by rw [hw5]; exact below_drew BB.out)
            have HC5 := Aside0.mk (show Kd.C (Kd.int .u8) w5 (some ad) (l.drop (1 + k)).length (l.drop (1 + k)) from Kd.C_below HC2.out B5.out)
            clear hw5 HA HB BB
            obtain ⟨ad', e, hcell⟩ := Cint_at HC5.out 0 hdl
            cases e
            obtain ⟨bt, hbt⟩ : ∃ b : Int, b = (l.drop (1 + k)).getD 0 0 := ⟨_, rfl⟩
            rw [← hbt] at hcell
            have HBT := Aside0.mk hbt
            clear hbt
            have b1 : w5.cell? ⟨gB, 1, none⟩ = some (.int .i64 x) := (blk_cell HB5.out 1).trans rfl
            have bf1 := blk_frozen HB5.out 1
            simp only [List.take_succ_cons, List.take_zero, List.drop_succ_cons, List.drop_zero]
            have hpos : (0 < 28 - (1 + k)) = True := eq_true (by omega)
            have hp2 : (1 + k < 28) = True := eq_true (by omega)
            have hp3 : (k < 28) = True := eq_true (by omega)
            have hp4 : ((0 : Int) < ((28 - (1 + k) : Nat) : Int)) = True := eq_true (by omega)
            have hp5 : ((0 : Int) < ((28 - k : Nat) : Int)) = True := eq_true (by omega)
            have hp6 : (0 < 28 - k) = True := eq_true (by omega)
            have hcell0 := hcell
            (try rw [Addr.add_zero'] at hcell0)
            repeat still_step
            try refine wpStill_nil ?_
            clear hcell hcell0
            obtain ⟨i0, hi0, _, hsz, _⟩ := info_parts info5p
            have hroom : 28 - (1 + k) ≤ c' := by have := HL2.out; rw [List.length_drop, hl] at this; exact this
            obtain ⟨A2, hA2⟩ : ∃ A2 : Option Addr, A2 = (if c' = 1 then some ad else (some ad).map (·.add (1 * 1))) := ⟨_, rfl⟩
            have hcut : ∀ W : World, (Instr.slice 26 (.slice (some ad) (28 - (1 + k)) c') (some (.int .i64 1)) none none).run Tryd.prog W = .ok (.slice A2 (28 - (1 + k) - 1) (c' - 1)) W := by
              rw [hA2]
              exact cut_from (P := Tryd.prog) 26 5 .i64 Tryd.underlying26 hi0 1 hsz (some ad) (28 - (1 + k)) c' 1 (by omega) (by omega)
            have HC6 := Aside0.mk (show Kd.C (Kd.int .u8) w A2 (l.drop (1 + (k + 1))).length (l.drop (1 + (k + 1))) by
              rw [hA2, show l.drop (1 + (k + 1)) = (l.drop (1 + k)).drop 1 by rw [List.drop_drop]; rfl]
              exact Kd.C_drop (m := 1) HC2.out (by omega) HL2.out)
            clear hA2
            have hz : 28 - (0 + k) = 28 - k := by omega
            (try rw [hz] at hcut)
            have hx : x = num l 1 k := HX.out
            go_wp2_with fail
            go_roundg gk2
            case measure => have := HK2.out; omega
            case rel => exact ⟨k + 1, A2, c' - 1, _, by go_num, (by first | rfl | (congr 1; omega)), ⟨by have := HK2.out; omega⟩, ⟨by rw [HBT.out]; rfl⟩, HC6, ⟨by have := HL2.out; rw [List.length_drop, hl] at *; omega⟩, ⟨blk_far HA5.out NB _⟩, ⟨blk_put HB5.out 1 _ rfl⟩, ⟨below_set B5.out GB⟩⟩
          · obtain rfl : k = 1 := by have := HK2.out; omega
            simp only [show ((1 : Nat) : Int) = 1 from rfl]
            go_wp2_with fail
            go_roundg go
            case measure => have := HK.out; omega
            case rel => exact ⟨2, 2, A', c', _, x, _, _, _, by go_num, (by first | rfl | (congr 1; omega)), ⟨by have := HK.out; omega⟩, ⟨rfl⟩, ⟨by rw [HX.out]; rfl⟩, HC2, HL2, HA, HB, BB⟩
      · obtain rfl : j = 2 := HJ.out
        have hn := HN.out
        simp only [nums, List.cons.injEq, and_true] at hn
        obtain ⟨rfl, rfl, rfl, rfl, rfl⟩ := hn
        clear HN HJ
        simp only [show ((2 : Nat) : Int) = 2 from rfl]
        go_wp2_with fail
        go_loopg [0, 18] 2 (fun n v0 v18 w' => ∃ (k : Nat) (A' : Option Addr) (c' : Nat) (x : Int), v18 = .int .i64 (k : Int) ∧ v0 = .slice A' (28 - (2 + k)) c' ∧ Aside0 (k + n = 2) ∧ Aside0 (x = num l 2 k) ∧ Aside0 (Kd.C (Kd.int .u8) w A' (l.drop (2 + k)).length (l.drop (2 + k))) ∧ Aside0 ((l.drop (2 + k)).length ≤ c') ∧ Aside0 (w'.heap[gA]? = some (.cells #[.int .u8 0, .int .i64 0, .int .i64 0, .int .i64 0, .int .i64 0, .int .u8 0, .int .u8 0, .int .u8 0, .int .u8 0, .int .u8 0, .int .u8 0, .int .u8 0, .int .u8 0, .int .u8 0, .int .u8 0, .int .u8 0, .int .u8 0, .int .u8 0, .int .u8 0, .int .u8 0, .int .u8 0, .int .u8 0, .int .u8 0, .int .u8 0, .int .u8 0] 25 (0, 0))) ∧ Aside0 (w'.heap[gB]? = some (.cells #[.int .i64 (num l 0 1), .int .i64 (num l 1 1), .int .i64 x, .int .i64 (0), .int .i64 (0)] 98 (0, 0))) ∧ Aside0 (Below w.heap.size w w'))
        case atStart => exact ⟨0, A', c', 0, rfl, rfl, ⟨rfl⟩, ⟨rfl⟩, HC2, HL2, HA, HB, BB⟩
        case round =>
          clear HC2 HL2 HA HB BB
          obtain ⟨k, A', c', x, rfl, rfl, HK2, HX, HC2, HL2, HA, HB, BB⟩ := hrel
          by_cases hk2 : k < 2
          · obtain ⟨gk2, rfl⟩ : ∃ j, gk = j + 1 := ⟨gk - 1, by have := HK2.out; omega⟩
            have hdl : 0 < (l.drop (2 + k)).length := by rw [List.length_drop, hl]; omega
            obtain ⟨ad, rfl, hcell⟩ := Cint_at HC2.out 0 hdl
            clear hcell
            go_wp2_with fail
            refine still_tail 10 (by kernel_rfl) (by kernel_rfl) (fun w5 hw5 => ?_)
            have HA5 := Aside0.mk (show w5.heap[gA]? = some (.cells #[.int .u8 0, .int .i64 0, .int .i64 0, .int .i64 0, .int .i64 0, .int .u8 0, .int .u8 0, .int .u8 0, .int .u8 0, .int .u8 0, .int .u8 0, .int .u8 0, .int .u8 0, .int .u8 0, .int .u8 0, .int .u8 0, .int .u8 0, .int .u8 0, .int .u8 0, .int .u8 0, .int .u8 0, .int .u8 0, .int .u8 0, .int .u8 0, .int .u8 0] 25 (0, 0)) by rw [hw5]; exact HA.out)
            have HB5 := Aside0.mk (show w5.heap[gB]? = some (.cells #[.int .i64 (num l 0 1), .int .i64 (num l 1 1), .int .i64 x, .int .i64 (0), .int .i64 (0)] 98 (0, 0)) by rw [hw5]; exact HB.out)
            have B5 := Aside0.mk (show Below w.heap.size w w5 by rw [hw5]; exact below_drew BB.out)
            have HC5 := Aside0.mk (show Kd.C (Kd.int .u8) w5 (some ad) (l.drop (2 + k)).length (l.drop (2 + k)) from Kd.C_below HC2.out B5.out)
            clear hw5 HA HB BB
            obtain ⟨ad', e, hcell⟩ := Cint_at HC5.out 0 hdl
            cases e
            obtain ⟨bt, hbt⟩ : ∃ b : Int, b = (l.drop (2 + k)).getD 0 0 := ⟨_, rfl⟩
            rw [← hbt] at hcell
            have HBT := Aside0.mk hbt
            clear hbt
            have b2 : w5.cell? ⟨gB, 2, none⟩ = some (.int .i64 x) := (blk_cell HB5.out 2).trans rfl
            have bf2 := blk_frozen HB5.out 2
            simp only [List.take_succ_cons, List.take_zero, List.drop_succ_cons, List.drop_zero]
            have hpos : (0 < 28 - (2 + k)) = True := eq_true (by omega)
            have hp2 : (2 + k < 28) = True := eq_true (by omega)
            have hp3 : (k < 28) = True := eq_true (by omega)
            have hp4 : ((0 : Int) < ((28 - (2 + k) : Nat) : Int)) = True := eq_true (by omega)
            have hp5 : ((0 : Int) < ((28 - k : Nat) : Int)) = True := eq_true (by omega)
            have hp6 : (0 < 28 - k) = True := eq_true (by omega)
            have hcell0 := hcell
            (try rw [Addr.add_zero'] at hcell0)
            repeat still_step
            try refine wpStill_nil ?_
            clear hcell hcell0
            obtain ⟨i0, hi0, _, hsz, _⟩ := info_parts info5p
            have hroom : 28 - (2 + k) ≤ c' := by have := HL2.out; rw [List.length_drop, hl] at this; exact this
            obtain ⟨A2, hA2⟩ : ∃ A2 : Option Addr, A2 = (if c' = 1 then some ad else (some ad).map (·.add (1 * 1))) := ⟨_, rfl⟩
            have hcut : ∀ W : World, (Instr.slice 26 (.slice (some ad) (28 - (2 + k)) c') (some (.int .i64 1)) none none).run Tryd.prog W = .ok (.slice A2 (28 - (2 + k) - 1) (c' - 1)) W := by
              rw [hA2]
              exact cut_from (P := Tryd.prog) 26 5 .i64 Tryd.underlying26 hi0 1 hsz (some ad) (28 - (2 + k)) c' 1 (by omega) (by omega)
            have HC6 := Aside0.mk (show Kd.C (Kd.int .u8) w A2 (l.drop (2 + (k + 1))).length (l.drop (2 + (k + 1))) by
              rw [hA2, show l.drop (2 + (k + 1)) = (l.drop (2 + k)).drop 1 by rw [List.drop_drop]; rfl]
              exact Kd.C_drop (m := 1) HC2.out (by omega) HL2.out)
            clear hA2
            have hz : 28 - (0 + k) = 28 - k := by omega
            (try rw [hz] at hcut)
            have hx : x = num l 2 k := HX.out
            go_wp2_with fail
            go_roundg gk2
            case measure => have := HK2.out; omega
            case rel => exact ⟨k + 1, A2, c' - 1, _, by go_num, (by first | rfl | (congr 1; omega)), ⟨by have := HK2.out; omega⟩, ⟨by rw [HBT.out]; rfl⟩, HC6, ⟨by have := HL2.out; rw [List.length_drop, hl] at *; omega⟩, ⟨blk_far HA5.out NB _⟩, ⟨blk_put HB5.out 2 _ rfl⟩, ⟨below_set B5.out GB⟩⟩
          · obtain rfl : k = 2 := by have := HK2.out; omega
            simp only [show ((2 : Nat) : Int) = 2 from rfl]
            go_wp2_with fail
            go_roundg go
            case measure => have := HK.out; omega
            case rel => exact ⟨3, 4, A', c', _, _, x, _, _, by go_num, (by first | rfl | (congr 1; omega)), ⟨by have := HK.out; omega⟩, ⟨rfl⟩, ⟨by rw [HX.out]; rfl⟩, HC2, HL2, HA, HB, BB⟩
      · obtain rfl : j = 4 := HJ.out
        have hn := HN.out
        simp only [nums, List.cons.injEq, and_true] at hn
        obtain ⟨rfl, rfl, rfl, rfl, rfl⟩ := hn
        clear HN HJ
        simp only [show ((3 : Nat) : Int) = 3 from rfl]
        go_wp2_with fail
        go_loopg [0, 18] 2 (fun n v0 v18 w' => ∃ (k : Nat) (A' : Option Addr) (c' : Nat) (x : Int), v18 = .int .i64 (k : Int) ∧ v0 = .slice A' (28 - (4 + k)) c' ∧ Aside0 (k + n = 2) ∧ Aside0 (x = num l 4 k) ∧ Aside0 (Kd.C (Kd.int .u8) w A' (l.drop (4 + k)).length (l.drop (4 + k))) ∧ Aside0 ((l.drop (4 + k)).length ≤ c') ∧ Aside0 (w'.heap[gA]? = some (.cells #[.int .u8 0, .int .i64 0, .int .i64 0, .int .i64 0, .int .i64 0, .int .u8 0, .int .u8 0, .int .u8 0, .int .u8 0, .int .u8 0, .int .u8 0, .int .u8 0, .int .u8 0, .int .u8 0, .int .u8 0, .int .u8 0, .int .u8 0, .int .u8 0, .int .u8 0, .int .u8 0, .int .u8 0, .int .u8 0, .int .u8 0, .int .u8 0, .int .u8 0] 25 (0, 0))) ∧ Aside0 (w'.heap[gB]? = some (.cells #[.int .i64 (num l 0 1), .int .i64 (num l 1 1), .int .i64 (num l 2 2), .int .i64 x, .int .i64 (0)] 98 (0, 0))) ∧ Aside0 (Below w.heap.size w w'))
        case atStart => exact ⟨0, A', c', 0, rfl, rfl, ⟨rfl⟩, ⟨rfl⟩, HC2, HL2, HA, HB, BB⟩
        case round =>
          clear HC2 HL2 HA HB BB
          obtain ⟨k, A', c', x, rfl, rfl, HK2, HX, HC2, HL2, HA, HB, BB⟩ := hrel
          by_cases hk2 : k < 2
          · obtain ⟨gk2, rfl⟩ : ∃ j, gk = j + 1 := ⟨gk - 1, by have := HK2.out; omega⟩
            have hdl : 0 < (l.drop (4 + k)).length := by rw [List.length_drop, hl]; omega
            obtain ⟨ad, rfl, hcell⟩ := Cint_at HC2.out 0 hdl
            clear hcell
            go_wp2_with fail
            refine still_tail 10 (by kernel_rfl) (by kernel_rfl) (fun w5 hw5 => ?_)
            have HA5 := Aside0.mk (show w5.heap[gA]? = some (.cells #[.int .u8 0, .int .i64 0, .int .i64 0, .int .i64 0, .int .i64 0, .int .u8 0, .int .u8 0, .int .u8 0, .int .u8 0, .int .u8 0, .int .u8 0, .int .u8 0, .int .u8 0, .int .u8 0, .int .u8 0, .int .u8 0, .int .u8 0, .int .u8 0, .int .u8 0, .int .u8 0, .int .u8 0, .int .u8 0, .int .u8 0, .int .u8 0, .int .u8 0] 25 (0, 0)) by rw [hw5]; exact HA.out)
            have HB5 := Aside0.mk (show w5.heap[gB]? = some (.cells #[.int .i64 (num l 0 1), .int .i64 (num l 1 1), .int .i64 (num l 2 2), .int .i64 x, .int .i64 (0)] 98 (0, 0)) by rw [hw5]; exact HB.out)
            have B5 := Aside0.mk (show Below w.heap.size w w5 by rw [hw5]; exact below_drew BB.out)
            have HC5 := Aside0.mk (show Kd.C (Kd.int .u8) w5 (some ad) (l.drop (4 + k)).length (l.drop (4 + k)) from Kd.C_below HC2.out B5.out)
            clear hw5 HA HB BB
            obtain ⟨ad', e, hcell⟩ := Cint_at HC5.out 0 hdl
            cases e
            obtain ⟨bt, hbt⟩ : ∃ b : Int, b = (l.drop (4 + k)).getD 0 0 := ⟨_, rfl⟩
            rw [← hbt] at hcell
            have HBT := Aside0.mk hbt
            clear hbt
            have b3 : w5.cell? ⟨gB, 3, none⟩ = some (.int .i64 x) := (blk_cell HB5.out 3).trans rfl
            have bf3 := blk_frozen HB5.out 3
            simp only [List.take_succ_cons, List.take_zero, List.drop_succ_cons, List.drop_zero]
            have hpos : (0 < 28 - (4 + k)) = True := eq_true (by omega)
            have hp2 : (4 + k < 28) = True := eq_true (by omega)
            have hp3 : (k < 28) = True := eq_true (by omega)
            have hp4 : ((0 : Int) < ((28 - (4 + k) : Nat) : Int)) = True := eq_true (by omega)
            have hp5 : ((0 : Int) < ((28 - k : Nat) : Int)) = True := eq_true (by omega)
            have hp6 : (0 < 28 - k) = True := eq_true (by omega)
            have hcell0 := hcell
            (try rw [Addr.add_zero'] at hcell0)
            repeat still_step
            try refine wpStill_nil ?_
            clear hcell hcell0
            obtain ⟨i0, hi0, _, hsz, _⟩ := info_parts info5p
            have hroom : 28 - (4 + k) ≤ c' := by have := HL2.out; rw [List.length_drop, hl] at this; exact this
            obtain ⟨A2, hA2⟩ : ∃ A2 : Option Addr, A2 = (if c' = 1 then some ad else (some ad).map (·.add (1 * 1))) := ⟨_, rfl⟩
            have hcut : ∀ W : World, (Instr.slice 26 (.slice (some ad) (28 - (4 + k)) c') (some (.int .i64 1)) none none).run Tryd.prog W = .ok (.slice A2 (28 - (4 + k) - 1) (c' - 1)) W := by
              rw [hA2]
              exact cut_from (P := Tryd.prog) 26 5 .i64 Tryd.underlying26 hi0 1 hsz (some ad) (28 - (4 + k)) c' 1 (by omega) (by omega)
            have HC6 := Aside0.mk (show Kd.C (Kd.int .u8) w A2 (l.drop (4 + (k + 1))).length (l.drop (4 + (k + 1))) by
              rw [hA2, show l.drop (4 + (k + 1)) = (l.drop (4 + k)).drop 1 by rw [List.drop_drop]; rfl]
              exact Kd.C_drop (m := 1) HC2.out (by omega) HL2.out)
            clear hA2
            have hz : 28 - (0 + k) = 28 - k := by omega
            (try rw [hz] at hcut)
            have hx : x = num l 4 k := HX.out
            go_wp2_with fail
            go_roundg gk2
            case measure => have := HK2.out; omega
            case rel => exact ⟨k + 1, A2, c' - 1, _, by go_num, (by first | rfl | (congr 1; omega)), ⟨by have := HK2.out; omega⟩, ⟨by rw [HBT.out]; rfl⟩, HC6, ⟨by have := HL2.out; rw [List.length_drop, hl] at *; omega⟩, ⟨blk_far HA5.out NB _⟩, ⟨blk_put HB5.out 3 _ rfl⟩, ⟨below_set B5.out GB⟩⟩
          · obtain rfl : k = 2 := by have := HK2.out; omega
            simp only [show ((2 : Nat) : Int) = 2 from rfl]
            go_wp2_with fail
            go_roundg go
            case measure => have := HK.out; omega
            case rel => exact ⟨4, 6, A', c', _, _, _, x, _, by go_num, (by first | rfl | (congr 1; omega)), ⟨by have := HK.out; omega⟩, ⟨rfl⟩, ⟨by rw [HX.out]; rfl⟩, HC2, HL2, HA, HB, BB⟩
      · obtain rfl : j = 6 := HJ.out
        have hn := HN.out
        simp only [nums, List.cons.injEq, and_true] at hn
        obtain ⟨rfl, rfl, rfl, rfl, rfl⟩ := hn
        clear HN HJ
        simp only [show ((4 : Nat) : Int) = 4 from rfl]
        go_wp2_with fail
        go_loopg [0, 18] 2 (fun n v0 v18 w' => ∃ (k : Nat) (A' : Option Addr) (c' : Nat) (x : Int), v18 = .int .i64 (k : Int) ∧ v0 = .slice A' (28 - (6 + k)) c' ∧ Aside0 (k + n = 2) ∧ Aside0 (x = num l 6 k) ∧ Aside0 (Kd.C (Kd.int .u8) w A' (l.drop (6 + k)).length (l.drop (6 + k))) ∧ Aside0 ((l.drop (6 + k)).length ≤ c') ∧ Aside0 (w'.heap[gA]? = some (.cells #[.int .u8 0, .int .i64 0, .int .i64 0, .int .i64 0, .int .i64 0, .int .u8 0, .int .u8 0, .int .u8 0, .int .u8 0, .int .u8 0, .int .u8 0, .int .u8 0, .int .u8 0, .int .u8 0, .int .u8 0, .int .u8 0, .int .u8 0, .int .u8 0, .int .u8 0, .int .u8 0, .int .u8 0, .int .u8 0, .int .u8 0, .int .u8 0, .int .u8 0] 25 (0, 0))) ∧ Aside0 (w'.heap[gB]? = some (.cells #[.int .i64 (num l 0 1), .int .i64 (num l 1 1), .int .i64 (num l 2 2), .int .i64 (num l 4 2), .int .i64 x] 98 (0, 0))) ∧ Aside0 (Below w.heap.size w w'))
        case atStart => exact ⟨0, A', c', 0, rfl, rfl, ⟨rfl⟩, ⟨rfl⟩, HC2, HL2, HA, HB, BB⟩
        case round =>
          clear HC2 HL2 HA HB BB
          obtain ⟨k, A', c', x, rfl, rfl, HK2, HX, HC2, HL2, HA, HB, BB⟩ := hrel
          by_cases hk2 : k < 2
          · obtain ⟨gk2, rfl⟩ : ∃ j, gk = j + 1 := ⟨gk - 1, by have := HK2.out; omega⟩
            have hdl : 0 < (l.drop (6 + k)).length := by rw [List.length_drop, hl]; omega
            obtain ⟨ad, rfl, hcell⟩ := Cint_at HC2.out 0 hdl
            clear hcell
            go_wp2_with fail
            refine still_tail 10 (by kernel_rfl) (by kernel_rfl) (fun w5 hw5 => ?_)
            have HA5 := Aside0.mk (show w5.heap[gA]? = some (.cells #[.int .u8 0, .int .i64 0, .int .i64 0, .int .i64 0, .int .i64 0, .int .u8 0, .int .u8 0, .int .u8 0, .int .u8 0, .int .u8 0, .int .u8 0, .int .u8 0, .int .u8 0, .int .u8 0, .int .u8 0, .int .u8 0, .int .u8 0, .int .u8 0, .int .u8 0, .int .u8 0, .int .u8 0, .int .u8 0, .int .u8 0, .int .u8 0, .int .u8 0] 25 (0, 0)) by rw [hw5]; exact HA.out)
            have HB5 := Aside0.mk (show w5.heap[gB]? = some (.cells #[.int .i64 (num l 0 1), .int .i64 (num l 1 1), .int .i64 (num l 2 2), .int .i64 (num l 4 2), .int .i64 x] 98 (0, 0)) by rw [hw5]; exact HB.out)
            have B5 := Aside0.mk (show Below w.heap.size w w5 by rw [hw5]; exact below_drew BB.out)
            have HC5 := Aside0.mk (show Kd.C (Kd.int .u8) w5 (some ad) (l.drop (6 + k)).length (l.drop (6 + k)) from Kd.C_below HC2.out B5.out)
            clear hw5 HA HB BB
            obtain ⟨ad', e, hcell⟩ := Cint_at HC5.out 0 hdl
            cases e
            obtain ⟨bt, hbt⟩ : ∃ b : Int, b = (l.drop (6 + k)).getD 0 0 := ⟨_, rfl⟩
            rw [← hbt] at hcell
            have HBT := Aside0.mk hbt
            clear hbt
            have b4 : w5.cell? ⟨gB, 4, none⟩ = some (.int .i64 x) := (blk_cell HB5.out 4).trans rfl
            have bf4 := blk_frozen HB5.out 4
            simp only [List.take_succ_cons, List.take_zero, List.drop_succ_cons, List.drop_zero]
            have hpos : (0 < 28 - (6 + k)) = True := eq_true (by omega)
            have hp2 : (6 + k < 28) = True := eq_true (by omega)
            have hp3 : (k < 28) = True := eq_true (by omega)
            have hp4 : ((0 : Int) < ((28 - (6 + k) : Nat) : Int)) = True := eq_true (by omega)
            have hp5 : ((0 : Int) < ((28 - k : Nat) : Int)) = True := eq_true (by omega)
            have hp6 : (0 < 28 - k) = True := eq_true (by omega)
            have hcell0 := hcell
            (try rw [Addr.add_zero'] at hcell0)
            repeat still_step
            try refine wpStill_nil ?_
            clear hcell hcell0
            obtain ⟨i0, hi0, _, hsz, _⟩ := info_parts info5p
            have hroom : 28 - (6 + k) ≤ c' := by have := HL2.out; rw [List.length_drop, hl] at this; exact this
            obtain ⟨A2, hA2⟩ : ∃ A2 : Option Addr, A2 = (if c' = 1 then some ad else (some ad).map (·.add (1 * 1))) := ⟨_, rfl⟩
            have hcut : ∀ W : World, (Instr.slice 26 (.slice (some ad) (28 - (6 + k)) c') (some (.int .i64 1)) none none).run Tryd.prog W = .ok (.slice A2 (28 - (6 + k) - 1) (c' - 1)) W := by
              rw [hA2]
              exact cut_from (P := Tryd.prog) 26 5 .i64 Tryd.underlying26 hi0 1 hsz (some ad) (28 - (6 + k)) c' 1 (by omega) (by omega)
            have HC6 := Aside0.mk (show Kd.C (Kd.int .u8) w A2 (l.drop (6 + (k + 1))).length (l.drop (6 + (k + 1))) by
              rw [hA2, show l.drop (6 + (k + 1)) = (l.drop (6 + k)).drop 1 by rw [List.drop_drop]; rfl]
              exact Kd.C_drop (m := 1) HC2.out (by omega) HL2.out)
            clear hA2
            have hz : 28 - (0 + k) = 28 - k := by omega
            (try rw [hz] at hcut)
            have hx : x = num l 6 k := HX.out
            go_wp2_with fail
            go_roundg gk2
            case measure => have := HK2.out; omega
            case rel => exact ⟨k + 1, A2, c' - 1, _, by go_num, (by first | rfl | (congr 1; omega)), ⟨by have := HK2.out; omega⟩, ⟨by rw [HBT.out]; rfl⟩, HC6, ⟨by have := HL2.out; rw [List.length_drop, hl] at *; omega⟩, ⟨blk_far HA5.out NB _⟩, ⟨blk_put HB5.out 4 _ rfl⟩, ⟨below_set B5.out GB⟩⟩
          · obtain rfl : k = 2 := by have := HK2.out; omega
            simp only [show ((2 : Nat) : Int) = 2 from rfl]
            go_wp2_with fail
            go_roundg go
            case measure => have := HK.out; omega
            case rel => exact ⟨5, 8, A', c', _, _, _, _, x, by go_num, (by first | rfl | (congr 1; omega)), ⟨by have := HK.out; omega⟩, ⟨rfl⟩, ⟨by rw [HX.out]; rfl⟩, HC2, HL2, HA, HB, BB⟩
    · obtain rfl : i = 5 := by have := HK.out; omega
      obtain rfl : j = 8 := HJ.out
      have hn := HN.out
      simp only [nums, List.cons.injEq, and_true] at hn
      obtain ⟨rfl, rfl, rfl, rfl, rfl⟩ := hn
      clear HN HJ
      simp only [show ((5 : Nat) : Int) = 5 from rfl]
      have hdl : 0 < (l.drop 8).length := by rw [List.length_drop, hl]; omega
      have hdl' : (l.drop 8).length = 20 := by rw [List.length_drop, hl]
      obtain ⟨ad, rfl, hcell⟩ := Cint_at HC2.out 0 hdl
      clear hcell
      have b0 : wr.cell? ⟨gB, 0, none⟩ = some (.int .i64 (num l 0 1)) := (blk_cell HB.out 0).trans rfl
      have bf0 := blk_frozen HB.out 0
      have b1 : wr.cell? ⟨gB, 1, none⟩ = some (.int .i64 (num l 1 1)) := (blk_cell HB.out 1).trans rfl
      have bf1 := blk_frozen HB.out 1
      have b2 : wr.cell? ⟨gB, 2, none⟩ = some (.int .i64 (num l 2 2)) := (blk_cell HB.out 2).trans rfl
      have bf2 := blk_frozen HB.out 2
      have b3 : wr.cell? ⟨gB, 3, none⟩ = some (.int .i64 (num l 4 2)) := (blk_cell HB.out 3).trans rfl
      have bf3 := blk_frozen HB.out 3
      have b4 : wr.cell? ⟨gB, 4, none⟩ = some (.int .i64 (num l 6 2)) := (blk_cell HB.out 4).trans rfl
      have bf4 := blk_frozen HB.out 4
      obtain ⟨bs, hbs⟩ : ∃ bs : List Int, bs = l.drop 8 := ⟨_, rfl⟩
      have HCb := Aside0.mk (show Kd.C (Kd.int .u8) w (some ad) bs.length bs by rw [hbs]; exact HC2.out)
      have hbl : bs.length = 20 := by rw [hbs]; exact hdl'
      have HBS := Aside0.mk hbs
      clear hbs
      have HS8 := Aside0.mk (show bs = [s0, s1, s2, s3, s4, s5, s6, s7, s8, s9, s10, s11, s12, s13, s14, s15, s16, s17, s18, s19] by rw [HBS.out]; exact HSS.out)
      go_wp2_with (first | ((with_reducible refine gate_store (t := 25) (p := _) rfl ?_); refine storeN_event (T := 25) rfl rfl rfl rfl rfl (storeVar_blk HCc.out 25 0 [.int .u8 (num l 0 1 % 256), .int .i64 (num l 1 1), .int .i64 (num l 2 2), .int .i64 (num l 4 2), .int .i64 (num l 6 2), .int .u8 0, .int .u8 0, .int .u8 0, .int .u8 0, .int .u8 0, .int .u8 0, .int .u8 0, .int .u8 0, .int .u8 0, .int .u8 0, .int .u8 0, .int .u8 0, .int .u8 0, .int .u8 0, .int .u8 0, .int .u8 0, .int .u8 0, .int .u8 0, .int .u8 0, .int .u8 0] (by kernel_rfl) rfl (by simp)) ?_; have HC7 := Aside0.mk (blk_setCells [] [.int .u8 (num l 0 1 % 256), .int .i64 (num l 1 1), .int .i64 (num l 2 2), .int .i64 (num l 4 2), .int .i64 (num l 6 2), .int .u8 0, .int .u8 0, .int .u8 0, .int .u8 0, .int .u8 0, .int .u8 0, .int .u8 0, .int .u8 0, .int .u8 0, .int .u8 0, .int .u8 0, .int .u8 0, .int .u8 0, .int .u8 0, .int .u8 0, .int .u8 0, .int .u8 0, .int .u8 0, .int .u8 0, .int .u8 0] [.int .u8 0, .int .i64 0, .int .i64 0, .int .i64 0, .int .i64 0, .int .u8 0, .int .u8 0, .int .u8 0, .int .u8 0, .int .u8 0, .int .u8 0, .int .u8 0, .int .u8 0, .int .u8 0, .int .u8 0, .int .u8 0, .int .u8 0, .int .u8 0, .int .u8 0, .int .u8 0, .int .u8 0, .int .u8 0, .int .u8 0, .int .u8 0, .int .u8 0] [] wC rfl HCc.out); have HA7 := Aside0.mk (far_setCells NC [.int .u8 (num l 0 1 % 256), .int .i64 (num l 1 1), .int .i64 (num l 2 2), .int .i64 (num l 4 2), .int .i64 (num l 6 2), .int .u8 0, .int .u8 0, .int .u8 0, .int .u8 0, .int .u8 0, .int .u8 0, .int .u8 0, .int .u8 0, .int .u8 0, .int .u8 0, .int .u8 0, .int .u8 0, .int .u8 0, .int .u8 0, .int .u8 0, .int .u8 0, .int .u8 0, .int .u8 0, .int .u8 0, .int .u8 0] 0 wC HA2.out); have B7 := Aside0.mk (below_setCells GC [.int .u8 (num l 0 1 % 256), .int .i64 (num l 1 1), .int .i64 (num l 2 2), .int .i64 (num l 4 2), .int .i64 (num l 6 2), .int .u8 0, .int .u8 0, .int .u8 0, .int .u8 0, .int .u8 0, .int .u8 0, .int .u8 0, .int .u8 0, .int .u8 0, .int .u8 0, .int .u8 0, .int .u8 0, .int .u8 0, .int .u8 0, .int .u8 0, .int .u8 0, .int .u8 0, .int .u8 0, .int .u8 0, .int .u8 0] 0 wC B2.out); clear HCc HA2 B2; generalize World.setCells wC gC 0 [.int .u8 (num l 0 1 % 256), .int .i64 (num l 1 1), .int .i64 (num l 2 2), .int .i64 (num l 4 2), .int .i64 (num l 6 2), .int .u8 0, .int .u8 0, .int .u8 0, .int .u8 0, .int .u8 0, .int .u8 0, .int .u8 0, .int .u8 0, .int .u8 0, .int .u8 0, .int .u8 0, .int .u8 0, .int .u8 0, .int .u8 0, .int .u8 0, .int .u8 0, .int .u8 0, .int .u8 0, .int .u8 0, .int .u8 0] = w7 at HC7 HA7 B7 ⊢; have HS := Aside0.mk (Kd.C_below HCb.out B7.out); have hcp := run_copy_cells (P := Tryd.prog) w7 26 26 3 5 gC 5 20 20 ad 20 c' (bs.map (Value.int .u8)) Tryd.underlying26 (by kernel_rfl) (by simp [hbl]) (C_src HS.out) (fun j hj => by rw [blk_cell HC7.out]; simp [hbl] at hj; simp; omega) (fun j hj => blk_frozen HC7.out _) (fun v hv => by simp only [List.mem_map] at hv; obtain ⟨_, _, rfl⟩ := hv; rfl)) | ((with_reducible refine gate_dst (N := 7) rfl ?_); refine box_event ?hg (N := 7) ?hd (cs := #[.int .u8 0, .int .i64 0, .int .i64 0, .int .i64 0, .int .i64 0, .int .u8 0, .int .u8 0, .int .u8 0, .int .u8 0, .int .u8 0, .int .u8 0, .int .u8 0, .int .u8 0, .int .u8 0, .int .u8 0, .int .u8 0, .int .u8 0, .int .u8 0, .int .u8 0, .int .u8 0, .int .u8 0, .int .u8 0, .int .u8 0, .int .u8 0, .int .u8 0]) (t := 25) ?hr ?_; (case hd => rfl); (case hg => rfl); (case hr => first | (go_simp; done) | (go_simp; rfl)); intro gC hgC wC hC hbC; have HCc := Aside0.mk hC; have HA2 := Aside0.mk (blk_below HA.out hbC); have B2 := Aside0.mk (below_step BB.out hbC); have NC : gA ≠ gC := Nat.ne_of_lt (Nat.lt_of_lt_of_eq (blk_lt HA.out) hgC.symm); have GC : w.heap.size ≤ gC := Nat.le_trans BB.out.size (Nat.le_of_eq hgC.symm); clear hC hbC hgC HA BB HB) | ((with_reducible refine gate_dst (N := 51) rfl ?_); have h8 : (World.setCells w7 gC 5 (bs.map (Value.int .u8))).heap[gC]? = some (.cells (([.int .u8 (num l 0 1 % 256), .int .i64 (num l 1 1), .int .i64 (num l 2 2), .int .i64 (num l 4 2), .int .i64 (num l 6 2)] : List Value) ++ (bs.map (Value.int .u8)) ++ []).toArray 25 (0, 0)) := blk_setCells [] (bs.map (Value.int .u8)) [.int .u8 0, .int .u8 0, .int .u8 0, .int .u8 0, .int .u8 0, .int .u8 0, .int .u8 0, .int .u8 0, .int .u8 0, .int .u8 0, .int .u8 0, .int .u8 0, .int .u8 0, .int .u8 0, .int .u8 0, .int .u8 0, .int .u8 0, .int .u8 0, .int .u8 0, .int .u8 0] ([.int .u8 (num l 0 1 % 256), .int .i64 (num l 1 1), .int .i64 (num l 2 2), .int .i64 (num l 4 2), .int .i64 (num l 6 2)] : List Value) w7 (by simp [hbl]) HC7.out; have HA8 := Aside0.mk (far_setCells NC (bs.map (Value.int .u8)) 5 w7 HA7.out); have B8 := Aside0.mk (below_setCells GC (bs.map (Value.int .u8)) 5 w7 B7.out); clear HC7 HA7 B7 hcp HS; generalize World.setCells w7 gC 5 (bs.map (Value.int .u8)) = w8 at h8 HA8 B8 ⊢; rw [HS8.out] at h8; have HC8 := Aside0.mk (show w8.heap[gC]? = some (.cells #[.int .u8 (num l 0 1 % 256), .int .i64 (num l 1 1), .int .i64 (num l 2 2), .int .i64 (num l 4 2), .int .i64 (num l 6 2), .int .u8 s0, .int .u8 s1, .int .u8 s2, .int .u8 s3, .int .u8 s4, .int .u8 s5, .int .u8 s6, .int .u8 s7, .int .u8 s8, .int .u8 s9, .int .u8 s10, .int .u8 s11, .int .u8 s12, .int .u8 s13, .int .u8 s14, .int .u8 s15, .int .u8 s16, .int .u8 s17, .int .u8 s18, .int .u8 s19] 25 (0, 0)) from h8); clear h8; have d0 : w8.cell? ⟨gC, 0, none⟩ = some (.int .u8 (num l 0 1 % 256)) := (blk_cell HC8.out 0).trans rfl; have d1 : w8.cell? ⟨gC, 1, none⟩ = some (.int .i64 (num l 1 1)) := (blk_cell HC8.out 1).trans rfl; have d2 : w8.cell? ⟨gC, 2, none⟩ = some (.int .i64 (num l 2 2)) := (blk_cell HC8.out 2).trans rfl; have d3 : w8.cell? ⟨gC, 3, none⟩ = some (.int .i64 (num l 4 2)) := (blk_cell HC8.out 3).trans rfl; have d4 : w8.cell? ⟨gC, 4, none⟩ = some (.int .i64 (num l 6 2)) := (blk_cell HC8.out 4).trans rfl; have d5 : w8.cell? ⟨gC, 5, none⟩ = some (.int .u8 s0) := (blk_cell HC8.out 5).trans rfl; have d6 : w8.cell? ⟨gC, 6, none⟩ = some (.int .u8 s1) := (blk_cell HC8.out 6).trans rfl; have d7 : w8.cell? ⟨gC, 7, none⟩ = some (.int .u8 s2) := (blk_cell HC8.out 7).trans rfl; have d8 : w8.cell? ⟨gC, 8, none⟩ = some (.int .u8 s3) := (blk_cell HC8.out 8).trans rfl; have d9 : w8.cell? ⟨gC, 9, none⟩ = some (.int .u8 s4) := (blk_cell HC8.out 9).trans rfl; have d10 : w8.cell? ⟨gC, 10, none⟩ = some (.int .u8 s5) := (blk_cell HC8.out 10).trans rfl; have d11 : w8.cell? ⟨gC, 11, none⟩ = some (.int .u8 s6) := (blk_cell HC8.out 11).trans rfl; have d12 : w8.cell? ⟨gC, 12, none⟩ = some (.int .u8 s7) := (blk_cell HC8.out 12).trans rfl; have d13 : w8.cell? ⟨gC, 13, none⟩ = some (.int .u8 s8) := (blk_cell HC8.out 13).trans rfl; have d14 : w8.cell? ⟨gC, 14, none⟩ = some (.int .u8 s9) := (blk_cell HC8.out 14).trans rfl; have d15 : w8.cell? ⟨gC, 15, none⟩ = some (.int .u8 s10) := (blk_cell HC8.out 15).trans rfl; have d16 : w8.cell? ⟨gC, 16, none⟩ = some (.int .u8 s11) := (blk_cell HC8.out 16).trans rfl; have d17 : w8.cell? ⟨gC, 17, none⟩ = some (.int .u8 s12) := (blk_cell HC8.out 17).trans rfl; have d18 : w8.cell? ⟨gC, 18, none⟩ = some (.int .u8 s13) := (blk_cell HC8.out 18).trans rfl; have d19 : w8.cell? ⟨gC, 19, none⟩ = some (.int .u8 s14) := (blk_cell HC8.out 19).trans rfl; have d20 : w8.cell? ⟨gC, 20, none⟩ = some (.int .u8 s15) := (blk_cell HC8.out 20).trans rfl; have d21 : w8.cell? ⟨gC, 21, none⟩ = some (.int .u8 s16) := (blk_cell HC8.out 21).trans rfl; have d22 : w8.cell? ⟨gC, 22, none⟩ = some (.int .u8 s17) := (blk_cell HC8.out 22).trans rfl; have d23 : w8.cell? ⟨gC, 23, none⟩ = some (.int .u8 s18) := (blk_cell HC8.out 23).trans rfl; have d24 : w8.cell? ⟨gC, 24, none⟩ = some (.int .u8 s19) := (blk_cell HC8.out 24).trans rfl; refine loadN_event (T := 25) rfl rfl rfl (run_loadVar_25_0 d0 d1 d2 d3 d4 d5 d6 d7 d8 d9 d10 d11 d12 d13 d14 d15 d16 d17 d18 d19 d20 d21 d22 d23 d24) ?_))
      refine (HCK.out w8).mono ?_
      rintro e w9 ⟨rfl, hb9⟩
      have HC9 := Aside0.mk (blk_below HC8.out hb9)
      have HA9 := Aside0.mk (blk_below HA8.out hb9)
      have B9 := Aside0.mk (below_step B8.out hb9)
      clear hb9 HC8 HA8 B8 d0 d1 d2 d3 d4 d5 d6 d7 d8 d9 d10 d11 d12 d13 d14 d15 d16 d17 d18 d19 d20 d21 d22 d23 d24
      by_cases h0 : r = 0
      · subst h0
        have e0 : w9.cell? ⟨gC, 0, none⟩ = some (.int .u8 (num l 0 1 % 256)) := (blk_cell HC9.out 0).trans rfl; have e1 : w9.cell? ⟨gC, 1, none⟩ = some (.int .i64 (num l 1 1)) := (blk_cell HC9.out 1).trans rfl; have e2 : w9.cell? ⟨gC, 2, none⟩ = some (.int .i64 (num l 2 2)) := (blk_cell HC9.out 2).trans rfl; have e3 : w9.cell? ⟨gC, 3, none⟩ = some (.int .i64 (num l 4 2)) := (blk_cell HC9.out 3).trans rfl; have e4 : w9.cell? ⟨gC, 4, none⟩ = some (.int .i64 (num l 6 2)) := (blk_cell HC9.out 4).trans rfl; have e5 : w9.cell? ⟨gC, 5, none⟩ = some (.int .u8 s0) := (blk_cell HC9.out 5).trans rfl; have e6 : w9.cell? ⟨gC, 6, none⟩ = some (.int .u8 s1) := (blk_cell HC9.out 6).trans rfl; have e7 : w9.cell? ⟨gC, 7, none⟩ = some (.int .u8 s2) := (blk_cell HC9.out 7).trans rfl; have e8 : w9.cell? ⟨gC, 8, none⟩ = some (.int .u8 s3) := (blk_cell HC9.out 8).trans rfl; have e9 : w9.cell? ⟨gC, 9, none⟩ = some (.int .u8 s4) := (blk_cell HC9.out 9).trans rfl; have e10 : w9.cell? ⟨gC, 10, none⟩ = some (.int .u8 s5) := (blk_cell HC9.out 10).trans rfl; have e11 : w9.cell? ⟨gC, 11, none⟩ = some (.int .u8 s6) := (blk_cell HC9.out 11).trans rfl; have e12 : w9.cell? ⟨gC, 12, none⟩ = some (.int .u8 s7) := (blk_cell HC9.out 12).trans rfl; have e13 : w9.cell? ⟨gC, 13, none⟩ = some (.int .u8 s8) := (blk_cell HC9.out 13).trans rfl; have e14 : w9.cell? ⟨gC, 14, none⟩ = some (.int .u8 s9) := (blk_cell HC9.out 14).trans rfl; have e15 : w9.cell? ⟨gC, 15, none⟩ = some (.int .u8 s10) := (blk_cell HC9.out 15).trans rfl; have e16 : w9.cell? ⟨gC, 16, none⟩ = some (.int .u8 s11) := (blk_cell HC9.out 16).trans rfl; have e17 : w9.cell? ⟨gC, 17, none⟩ = some (.int .u8 s12) := (blk_cell HC9.out 17).trans rfl; have e18 : w9.cell? ⟨gC, 18, none⟩ = some (.int .u8 s13) := (blk_cell HC9.out 18).trans rfl; have e19 : w9.cell? ⟨gC, 19, none⟩ = some (.int .u8 s14) := (blk_cell HC9.out 19).trans rfl; have e20 : w9.cell? ⟨gC, 20, none⟩ = some (.int .u8 s15) := (blk_cell HC9.out 20).trans rfl; have e21 : w9.cell? ⟨gC, 21, none⟩ = some (.int .u8 s16) := (blk_cell HC9.out 21).trans rfl; have e22 : w9.cell? ⟨gC, 22, none⟩ = some (.int .u8 s17) := (blk_cell HC9.out 22).trans rfl; have e23 : w9.cell? ⟨gC, 23, none⟩ = some (.int .u8 s18) := (blk_cell HC9.out 23).trans rfl; have e24 : w9.cell? ⟨gC, 24, none⟩ = some (.int .u8 s19) := (blk_cell HC9.out 24).trans rfl
        go_wp2_with (first | ((with_reducible refine gate_dst (N := 55) rfl ?_); refine loadN_event (T := 25) rfl rfl rfl (run_loadVar_25_0 e0 e1 e2 e3 e4 e5 e6 e7 e8 e9 e10 e11 e12 e13 e14 e15 e16 e17 e18 e19 e20 e21 e22 e23 e24) ?_) | ((with_reducible refine gate_store (t := 25) (p := _) rfl ?_); refine storeN_event (T := 25) rfl rfl rfl rfl rfl (storeVar_blk HA9.out 25 0 [.int .u8 (num l 0 1 % 256), .int .i64 (num l 1 1), .int .i64 (num l 2 2), .int .i64 (num l 4 2), .int .i64 (num l 6 2), .int .u8 s0, .int .u8 s1, .int .u8 s2, .int .u8 s3, .int .u8 s4, .int .u8 s5, .int .u8 s6, .int .u8 s7, .int .u8 s8, .int .u8 s9, .int .u8 s10, .int .u8 s11, .int .u8 s12, .int .u8 s13, .int .u8 s14, .int .u8 s15, .int .u8 s16, .int .u8 s17, .int .u8 s18, .int .u8 s19] (by kernel_rfl) rfl (by simp)) ?_; have HA10 := Aside0.mk (blk_setCells [] [.int .u8 (num l 0 1 % 256), .int .i64 (num l 1 1), .int .i64 (num l 2 2), .int .i64 (num l 4 2), .int .i64 (num l 6 2), .int .u8 s0, .int .u8 s1, .int .u8 s2, .int .u8 s3, .int .u8 s4, .int .u8 s5, .int .u8 s6, .int .u8 s7, .int .u8 s8, .int .u8 s9, .int .u8 s10, .int .u8 s11, .int .u8 s12, .int .u8 s13, .int .u8 s14, .int .u8 s15, .int .u8 s16, .int .u8 s17, .int .u8 s18, .int .u8 s19] [.int .u8 0, .int .i64 0, .int .i64 0, .int .i64 0, .int .i64 0, .int .u8 0, .int .u8 0, .int .u8 0, .int .u8 0, .int .u8 0, .int .u8 0, .int .u8 0, .int .u8 0, .int .u8 0, .int .u8 0, .int .u8 0, .int .u8 0, .int .u8 0, .int .u8 0, .int .u8 0, .int .u8 0, .int .u8 0, .int .u8 0, .int .u8 0, .int .u8 0] [] w9 rfl HA9.out); have B10 := Aside0.mk (below_setCells GA [.int .u8 (num l 0 1 % 256), .int .i64 (num l 1 1), .int .i64 (num l 2 2), .int .i64 (num l 4 2), .int .i64 (num l 6 2), .int .u8 s0, .int .u8 s1, .int .u8 s2, .int .u8 s3, .int .u8 s4, .int .u8 s5, .int .u8 s6, .int .u8 s7, .int .u8 s8, .int .u8 s9, .int .u8 s10, .int .u8 s11, .int .u8 s12, .int .u8 s13, .int .u8 s14, .int .u8 s15, .int .u8 s16, .int .u8 s17, .int .u8 s18, .int .u8 s19] 0 w9 B9.out)))
        exact bodyPost_ret (results_ct rfl _ _ gA 25 #[.int .u8 (num l 0 1 % 256), .int .i64 (num l 1 1), .int .i64 (num l 2 2), .int .i64 (num l 4 2), .int .i64 (num l 6 2), .int .u8 s0, .int .u8 s1, .int .u8 s2, .int .u8 s3, .int .u8 s4, .int .u8 s5, .int .u8 s6, .int .u8 s7, .int .u8 s8, .int .u8 s9, .int .u8 s10, .int .u8 s11, .int .u8 s12, .int .u8 s13, .int .u8 s14, .int .u8 s15, .int .u8 s16, .int .u8 s17, .int .u8 s18, .int .u8 s19] (0, 0) _ rfl HA10.out Tryd.underlying25 rfl (by kernel_rfl)) rfl ⟨rfl, B10.out⟩
      · have hz : (r == 0) = false := by simpa using h0
        have hz2 : (r != 0) = true := by simpa using h0
        go_wp2_with (first | ((with_reducible refine gate_store (t := 25) (p := _) rfl ?_); refine storeN_event (T := 25) rfl rfl rfl rfl rfl (storeVar_blk HA9.out 25 0 [.int .u8 0, .int .i64 0, .int .i64 0, .int .i64 0, .int .i64 0, .int .u8 0, .int .u8 0, .int .u8 0, .int .u8 0, .int .u8 0, .int .u8 0, .int .u8 0, .int .u8 0, .int .u8 0, .int .u8 0, .int .u8 0, .int .u8 0, .int .u8 0, .int .u8 0, .int .u8 0, .int .u8 0, .int .u8 0, .int .u8 0, .int .u8 0, .int .u8 0] (by kernel_rfl) rfl (by simp)) ?_; have HA10 := Aside0.mk (blk_setCells [] [.int .u8 0, .int .i64 0, .int .i64 0, .int .i64 0, .int .i64 0, .int .u8 0, .int .u8 0, .int .u8 0, .int .u8 0, .int .u8 0, .int .u8 0, .int .u8 0, .int .u8 0, .int .u8 0, .int .u8 0, .int .u8 0, .int .u8 0, .int .u8 0, .int .u8 0, .int .u8 0, .int .u8 0, .int .u8 0, .int .u8 0, .int .u8 0, .int .u8 0] [.int .u8 0, .int .i64 0, .int .i64 0, .int .i64 0, .int .i64 0, .int .u8 0, .int .u8 0, .int .u8 0, .int .u8 0, .int .u8 0, .int .u8 0, .int .u8 0, .int .u8 0, .int .u8 0, .int .u8 0, .int .u8 0, .int .u8 0, .int .u8 0, .int .u8 0, .int .u8 0, .int .u8 0, .int .u8 0, .int .u8 0, .int .u8 0, .int .u8 0] [] w9 rfl HA9.out); have B10 := Aside0.mk (below_setCells GA [.int .u8 0, .int .i64 0, .int .i64 0, .int .i64 0, .int .i64 0, .int .u8 0, .int .u8 0, .int .u8 0, .int .u8 0, .int .u8 0, .int .u8 0, .int .u8 0, .int .u8 0, .int .u8 0, .int .u8 0, .int .u8 0, .int .u8 0, .int .u8 0, .int .u8 0, .int .u8 0, .int .u8 0, .int .u8 0, .int .u8 0, .int .u8 0, .int .u8 0] 0 w9 B9.out)))
        exact bodyPost_ret (results_ct rfl _ _ gA 25 #[.int .u8 0, .int .i64 0, .int .i64 0, .int .i64 0, .int .i64 0, .int .u8 0, .int .u8 0, .int .u8 0, .int .u8 0, .int .u8 0, .int .u8 0, .int .u8 0, .int .u8 0, .int .u8 0, .int .u8 0, .int .u8 0, .int .u8 0, .int .u8 0, .int .u8 0, .int .u8 0, .int .u8 0, .int .u8 0, .int .u8 0, .int .u8 0, .int .u8 0] (0, 0) _ rfl HA10.out Tryd.underlying25 rfl (by kernel_rfl)) rfl ⟨rfl, B10.out⟩
end Go.Proofs.YtbldecdipicddaaDoor.Hand
