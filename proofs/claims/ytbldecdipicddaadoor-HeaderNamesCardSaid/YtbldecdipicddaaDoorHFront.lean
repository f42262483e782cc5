/- The contract of header.front. Written by wip/s1/mkfront.py. -/
import Derived.Test.YtbldecdipicddaaDoorTabs

namespace Go.Proofs.YtbldecdipicddaaDoor.Hand
open Go Go.RowKit Go.Proofs.YtbldecdipicddaaDoorW.PrintWords Go.Proofs.YtbldecdipicddaaDoorW.PrintLast Go.Proofs.YtbldecdipicddaaDoorW.PrintMore
theorem info5 : (Tryd.prog.info? 5).map (fun i => (i.zero, i.size, i.bytes)) = some (some (.int .u8 0), 1, 1) := by kernel_rfl
def fr (m x1 x2 x3 x4 : Int) : Nat → List Int
  | 0 => []
  | 1 => [(wrap64 m) % 256]
  | 2 => [(wrap64 m) % 256, x1 % 256]
  | 3 => [(wrap64 m) % 256, x1 % 256, x2 / 256 % 256, x2 % 256]
  | 4 => [(wrap64 m) % 256, x1 % 256, x2 / 256 % 256, x2 % 256, x3 / 256 % 256, x3 % 256]
  | _ => [(wrap64 m) % 256, x1 % 256, x2 / 256 % 256, x2 % 256, x3 / 256 % 256, x3 % 256, x4 / 256 % 256, x4 % 256]
set_option maxHeartbeats 3200000 in
set_option maxRecDepth 100000 in
theorem front_calls (m x1 x2 x3 x4 s0 s1 s2 s3 s4 s5 s6 s7 s8 s9 s10 s11 s12 s13 s14 s15 s16 s17 s18 s19 : Int) (w : World) (hT : TabW w) :
    Calls Tryd.prog 66 #[.agg #[.int .u8 m, .int .i64 x1, .int .i64 x2, .int .i64 x3, .int .i64 x4, .int .u8 s0, .int .u8 s1, .int .u8 s2, .int .u8 s3, .int .u8 s4, .int .u8 s5, .int .u8 s6, .int .u8 s7, .int .u8 s8, .int .u8 s9, .int .u8 s10, .int .u8 s11, .int .u8 s12, .int .u8 s13, .int .u8 s14, .int .u8 s15, .int .u8 s16, .int .u8 s17, .int .u8 s18, .int .u8 s19]] w fun e w' => ∃ v0_ : Value, e = .returned v0_ ∧ Kd.R (Kd.int .u8) 5 w' w.heap.size (fun _ => True) v0_ (fr m x1 x2 x3 x4 5) ∧ Below w.heap.size w w' := by
  have HT := Aside0.mk hT
  clear hT
  go_enter Tryd.func66, Tryd.ntmps66
  go_wp2_with (first | ((with_reducible refine gate_dst (N := 1) rfl ?_); refine box_event ?hg (N := 1) ?hd (cs := #[.int .u8 m, .int .i64 x1, .int .i64 x2, .int .i64 x3, .int .i64 x4, .int .u8 s0, .int .u8 s1, .int .u8 s2, .int .u8 s3, .int .u8 s4, .int .u8 s5, .int .u8 s6, .int .u8 s7, .int .u8 s8, .int .u8 s9, .int .u8 s10, .int .u8 s11, .int .u8 s12, .int .u8 s13, .int .u8 s14, .int .u8 s15, .int .u8 s16, .int .u8 s17, .int .u8 s18, .int .u8 s19]) (t := 25) ?hr ?_; (case hd => rfl); (case hg => rfl); (case hr => first | (go_simp; done) | (go_simp; rfl)); intro gA hgA wA hA hbA; have BA := Aside0.mk hbA; have a0 : wA.cell? ⟨gA, 0, none⟩ = some (.int .u8 m) := (blk_cell hA 0).trans rfl; have af0 := blk_frozen hA 0; have a1 : wA.cell? ⟨gA, 1, none⟩ = some (.int .i64 x1) := (blk_cell hA 1).trans rfl; have af1 := blk_frozen hA 1; have a2 : wA.cell? ⟨gA, 2, none⟩ = some (.int .i64 x2) := (blk_cell hA 2).trans rfl; have af2 := blk_frozen hA 2; have a3 : wA.cell? ⟨gA, 3, none⟩ = some (.int .i64 x3) := (blk_cell hA 3).trans rfl; have af3 := blk_frozen hA 3; have a4 : wA.cell? ⟨gA, 4, none⟩ = some (.int .i64 x4) := (blk_cell hA 4).trans rfl; have af4 := blk_frozen hA 4; clear hA hbA hgA))
  go_loopg [3, 19] 5 (fun n v3 v19 w' => ∃ (i : Nat), v19 = .int .i64 (i : Int) ∧ Aside0 (i + n = 5) ∧ Aside0 (Kd.R (Kd.int .u8) 5 w' w.heap.size (fun _ => True) v3 (fr m x1 x2 x3 x4 i)) ∧ Aside0 (Below w.heap.size w w'))
  case atStart => exact ⟨0, rfl, ⟨rfl⟩, ⟨Kd.R_nil _ _ _ _ _⟩, BA⟩
  case round =>
    clear BA a0 af0 a1 af1 a2 af2 a3 af3 a4 af4
    obtain ⟨i, rfl, HK, HO, BB⟩ := hrel
    by_cases hk : i < 5
    · obtain ⟨go, rfl⟩ : ∃ j, gk = j + 1 := ⟨gk - 1, by have := HK.out; omega⟩
      obtain rfl | rfl | rfl | rfl | rfl : i = 0 ∨ i = 1 ∨ i = 2 ∨ i = 3 ∨ i = 4 := by omega
      · have tc := HT.out.at BB.out
        have t0 := tc.c0
        clear tc
        simp only [show ((0 : Nat) : Int) = 0 from rfl]
        go_wp2_with fail
        clear t0
        go_loopg [3, 26] 1 (fun n v3 v26 w' => ∃ (k : Nat), v26 = .int .i64 (k : Int) ∧ Aside0 (k + n = 1) ∧ Aside0 (Kd.R (Kd.int .u8) 5 w' w.heap.size (fun _ => True) v3 ((fr m x1 x2 x3 x4 1).take (0 + k))) ∧ Aside0 (Below w.heap.size w w'))
        case atStart => exact ⟨0, rfl, ⟨rfl⟩, HO, BB⟩
        case round =>
          clear HO BB
          obtain ⟨k, rfl, HK2, HO, BB⟩ := hrel
          by_cases hk2 : k < 1
          · obtain ⟨gk2, rfl⟩ : ∃ j, gk = j + 1 := ⟨gk - 1, by have := HK2.out; omega⟩
            obtain rfl : k = 0 := by omega
            · have tc := HT.out.at BB.out
              have t0 := tc.c0
              clear tc
              simp only [show ((0 : Nat) : Int) = 0 from rfl]
              go_wp2_with (first | ((with_reducible refine gate_builtin (b := .append) (xs := #[.tmp 29, .tmp 40]) rfl ?_); at_builtin; refine Kd.R_append (Kd.int .u8) (w0 := w) w.heap.size rfl (.tmp 29) (.tmp 40) 26 5 (.int .u8 0) 1 rfl Tryd.underlying26 info5 rfl (by decide) (by omega) _ ((fr m x1 x2 x3 x4 1).take (0 + 0)) ((wrap64 m) % 256) [.int .u8 ((wrap64 m) % 256)] (fun _ => True) (fun _ => False) rfl rfl ?aP (fun _ hk => hk.elim) ?aF ?aO ?aB ?aS ?aL ?_; (case aP => exact rfl); (case aB => exact BB.out); (case aF => exact (fun _ _ => trivial)); (case aO => exact HO.out); (case aS => exact below_size BB.out); (case aL => simp [fr]); intro v4 w4 ho hb hg hat; have HO4 := Aside0.mk ho; have B4 := Aside0.mk hb; clear ho hb hg hat HO BB))
              go_roundg gk2
              case measure => have := HK2.out; omega
              case rel => exact ⟨1, by go_num, ⟨by have := HK2.out; omega⟩, ⟨by simpa [fr] using HO4.out⟩, B4⟩
          · obtain rfl : k = 1 := by have := HK2.out; omega
            simp only [show ((1 : Nat) : Int) = 1 from rfl]
            clear HK2
            go_wp2_with fail
            go_roundg go
            case measure => have := HK.out; omega
            case rel => exact ⟨1, by go_num, ⟨by have := HK.out; omega⟩, HO, BB⟩
      · have tc := HT.out.at BB.out
        have t1 := tc.c1
        clear tc
        simp only [show ((1 : Nat) : Int) = 1 from rfl]
        go_wp2_with fail
        clear t1
        go_loopg [3, 26] 1 (fun n v3 v26 w' => ∃ (k : Nat), v26 = .int .i64 (k : Int) ∧ Aside0 (k + n = 1) ∧ Aside0 (Kd.R (Kd.int .u8) 5 w' w.heap.size (fun _ => True) v3 ((fr m x1 x2 x3 x4 2).take (1 + k))) ∧ Aside0 (Below w.heap.size w w'))
        case atStart => exact ⟨0, rfl, ⟨rfl⟩, HO, BB⟩
        case round =>
          clear HO BB
          obtain ⟨k, rfl, HK2, HO, BB⟩ := hrel
          by_cases hk2 : k < 1
          · obtain ⟨gk2, rfl⟩ : ∃ j, gk = j + 1 := ⟨gk - 1, by have := HK2.out; omega⟩
            obtain rfl : k = 0 := by omega
            · have tc := HT.out.at BB.out
              have t1 := tc.c1
              clear tc
              simp only [show ((0 : Nat) : Int) = 0 from rfl]
              go_wp2_with (first | ((with_reducible refine gate_builtin (b := .append) (xs := #[.tmp 29, .tmp 40]) rfl ?_); at_builtin; refine Kd.R_append (Kd.int .u8) (w0 := w) w.heap.size rfl (.tmp 29) (.tmp 40) 26 5 (.int .u8 0) 1 rfl Tryd.underlying26 info5 rfl (by decide) (by omega) _ ((fr m x1 x2 x3 x4 2).take (1 + 0)) (x1 % 256) [.int .u8 (x1 % 256)] (fun _ => True) (fun _ => False) rfl rfl ?aP (fun _ hk => hk.elim) ?aF ?aO ?aB ?aS ?aL ?_; (case aP => exact rfl); (case aB => exact BB.out); (case aF => exact (fun _ _ => trivial)); (case aO => exact HO.out); (case aS => exact below_size BB.out); (case aL => simp [fr]); intro v4 w4 ho hb hg hat; have HO4 := Aside0.mk ho; have B4 := Aside0.mk hb; clear ho hb hg hat HO BB))
              go_roundg gk2
              case measure => have := HK2.out; omega
              case rel => exact ⟨1, by go_num, ⟨by have := HK2.out; omega⟩, ⟨by simpa [fr] using HO4.out⟩, B4⟩
          · obtain rfl : k = 1 := by have := HK2.out; omega
            simp only [show ((1 : Nat) : Int) = 1 from rfl]
            clear HK2
            go_wp2_with fail
            go_roundg go
            case measure => have := HK.out; omega
            case rel => exact ⟨2, by go_num, ⟨by have := HK.out; omega⟩, HO, BB⟩
      · have tc := HT.out.at BB.out
        have t2 := tc.c2
        clear tc
        simp only [show ((2 : Nat) : Int) = 2 from rfl]
        go_wp2_with fail
        clear t2
        go_loopg [3, 26] 2 (fun n v3 v26 w' => ∃ (k : Nat), v26 = .int .i64 (k : Int) ∧ Aside0 (k + n = 2) ∧ Aside0 (Kd.R (Kd.int .u8) 5 w' w.heap.size (fun _ => True) v3 ((fr m x1 x2 x3 x4 3).take (2 + k))) ∧ Aside0 (Below w.heap.size w w'))
        case atStart => exact ⟨0, rfl, ⟨rfl⟩, HO, BB⟩
        case round =>
          clear HO BB
          obtain ⟨k, rfl, HK2, HO, BB⟩ := hrel
          by_cases hk2 : k < 2
          · obtain ⟨gk2, rfl⟩ : ∃ j, gk = j + 1 := ⟨gk - 1, by have := HK2.out; omega⟩
            obtain rfl | rfl : k = 0 ∨ k = 1 := by omega
            · have tc := HT.out.at BB.out
              have t2 := tc.c2
              clear tc
              simp only [show ((0 : Nat) : Int) = 0 from rfl]
              go_wp2_with (first | ((with_reducible refine gate_builtin (b := .append) (xs := #[.tmp 29, .tmp 40]) rfl ?_); at_builtin; refine Kd.R_append (Kd.int .u8) (w0 := w) w.heap.size rfl (.tmp 29) (.tmp 40) 26 5 (.int .u8 0) 1 rfl Tryd.underlying26 info5 rfl (by decide) (by omega) _ ((fr m x1 x2 x3 x4 3).take (2 + 0)) (x2 / 256 % 256) [.int .u8 (x2 / 256 % 256)] (fun _ => True) (fun _ => False) rfl rfl ?aP (fun _ hk => hk.elim) ?aF ?aO ?aB ?aS ?aL ?_; (case aP => exact rfl); (case aB => exact BB.out); (case aF => exact (fun _ _ => trivial)); (case aO => exact HO.out); (case aS => exact below_size BB.out); (case aL => simp [fr]); intro v4 w4 ho hb hg hat; have HO4 := Aside0.mk ho; have B4 := Aside0.mk hb; clear ho hb hg hat HO BB))
              go_roundg gk2
              case measure => have := HK2.out; omega
              case rel => exact ⟨1, by go_num, ⟨by have := HK2.out; omega⟩, ⟨by simpa [fr] using HO4.out⟩, B4⟩
            · have tc := HT.out.at BB.out
              have t2 := tc.c2
              clear tc
              simp only [show ((1 : Nat) : Int) = 1 from rfl]
              go_wp2_with (first | ((with_reducible refine gate_builtin (b := .append) (xs := #[.tmp 29, .tmp 40]) rfl ?_); at_builtin; refine Kd.R_append (Kd.int .u8) (w0 := w) w.heap.size rfl (.tmp 29) (.tmp 40) 26 5 (.int .u8 0) 1 rfl Tryd.underlying26 info5 rfl (by decide) (by omega) _ ((fr m x1 x2 x3 x4 3).take (2 + 1)) (x2 % 256) [.int .u8 (x2 % 256)] (fun _ => True) (fun _ => False) rfl rfl ?aP (fun _ hk => hk.elim) ?aF ?aO ?aB ?aS ?aL ?_; (case aP => exact rfl); (case aB => exact BB.out); (case aF => exact (fun _ _ => trivial)); (case aO => exact HO.out); (case aS => exact below_size BB.out); (case aL => simp [fr]); intro v4 w4 ho hb hg hat; have HO4 := Aside0.mk ho; have B4 := Aside0.mk hb; clear ho hb hg hat HO BB))
              go_roundg gk2
              case measure => have := HK2.out; omega
              case rel => exact ⟨2, by go_num, ⟨by have := HK2.out; omega⟩, ⟨by simpa [fr] using HO4.out⟩, B4⟩
          · obtain rfl : k = 2 := by have := HK2.out; omega
            simp only [show ((2 : Nat) : Int) = 2 from rfl]
            clear HK2
            go_wp2_with fail
            go_roundg go
            case measure => have := HK.out; omega
            case rel => exact ⟨3, by go_num, ⟨by have := HK.out; omega⟩, HO, BB⟩
      · have tc := HT.out.at BB.out
        have t3 := tc.c3
        clear tc
        simp only [show ((3 : Nat) : Int) = 3 from rfl]
        go_wp2_with fail
        clear t3
        go_loopg [3, 26] 2 (fun n v3 v26 w' => ∃ (k : Nat), v26 = .int .i64 (k : Int) ∧ Aside0 (k + n = 2) ∧ Aside0 (Kd.R (Kd.int .u8) 5 w' w.heap.size (fun _ => True) v3 ((fr m x1 x2 x3 x4 4).take (4 + k))) ∧ Aside0 (Below w.heap.size w w'))
        case atStart => exact ⟨0, rfl, ⟨rfl⟩, HO, BB⟩
        case round =>
          clear HO BB
          obtain ⟨k, rfl, HK2, HO, BB⟩ := hrel
          by_cases hk2 : k < 2
          · obtain ⟨gk2, rfl⟩ : ∃ j, gk = j + 1 := ⟨gk - 1, by have := HK2.out; omega⟩
            obtain rfl | rfl : k = 0 ∨ k = 1 := by omega
            · have tc := HT.out.at BB.out
              have t3 := tc.c3
              clear tc
              simp only [show ((0 : Nat) : Int) = 0 from rfl]
              go_wp2_with (first | ((with_reducible refine gate_builtin (b := .append) (xs := #[.tmp 29, .tmp 40]) rfl ?_); at_builtin; refine Kd.R_append (Kd.int .u8) (w0 := w) w.heap.size rfl (.tmp 29) (.tmp 40) 26 5 (.int .u8 0) 1 rfl Tryd.underlying26 info5 rfl (by decide) (by omega) _ ((fr m x1 x2 x3 x4 4).take (4 + 0)) (x3 / 256 % 256) [.int .u8 (x3 / 256 % 256)] (fun _ => True) (fun _ => False) rfl rfl ?aP (fun _ hk => hk.elim) ?aF ?aO ?aB ?aS ?aL ?_; (case aP => exact rfl); (case aB => exact BB.out); (case aF => exact (fun _ _ => trivial)); (case aO => exact HO.out); (case aS => exact below_size BB.out); (case aL => simp [fr]); intro v4 w4 ho hb hg hat; have HO4 := Aside0.mk ho; have B4 := Aside0.mk hb; clear ho hb hg hat HO BB))
              go_roundg gk2
              case measure => have := HK2.out; omega
              case rel => exact ⟨1, by go_num, ⟨by have := HK2.out; omega⟩, ⟨by simpa [fr] using HO4.out⟩, B4⟩
            · have tc := HT.out.at BB.out
              have t3 := tc.c3
              clear tc
              simp only [show ((1 : Nat) : Int) = 1 from rfl]
              go_wp2_with (first | ((with_reducible refine gate_builtin (b := .append) (xs := #[.tmp 29, .tmp 40]) rfl ?_); at_builtin; refine Kd.R_append (Kd.int .u8) (w0 := w) w.heap.size rfl (.tmp 29) (.tmp 40) 26 5 (.int .u8 0) 1 rfl Tryd.underlying26 info5 rfl (by decide) (by omega) _ ((fr m x1 x2 x3 x4 4).take (4 + 1)) (x3 % 256) [.int .u8 (x3 % 256)] (fun _ => True) (fun _ => False) rfl rfl ?aP (fun _ hk => hk.elim) ?aF ?aO ?aB ?aS ?aL ?_; (case aP => exact rfl); (case aB => exact BB.out); (case aF => exact (fun _ _ => trivial)); (case aO => exact HO.out); (case aS => exact below_size BB.out); (case aL => simp [fr]); intro v4 w4 ho hb hg hat; have HO4 := Aside0.mk ho; have B4 := Aside0.mk hb; clear ho hb hg hat HO BB))
              go_roundg gk2
              case measure => have := HK2.out; omega
              case rel => exact ⟨2, by go_num, ⟨by have := HK2.out; omega⟩, ⟨by simpa [fr] using HO4.out⟩, B4⟩
          · obtain rfl : k = 2 := by have := HK2.out; omega
            simp only [show ((2 : Nat) : Int) = 2 from rfl]
            clear HK2
            go_wp2_with fail
            go_roundg go
            case measure => have := HK.out; omega
            case rel => exact ⟨4, by go_num, ⟨by have := HK.out; omega⟩, HO, BB⟩
      · have tc := HT.out.at BB.out
        have t4 := tc.c4
        clear tc
        simp only [show ((4 : Nat) : Int) = 4 from rfl]
        go_wp2_with fail
        clear t4
        go_loopg [3, 26] 2 (fun n v3 v26 w' => ∃ (k : Nat), v26 = .int .i64 (k : Int) ∧ Aside0 (k + n = 2) ∧ Aside0 (Kd.R (Kd.int .u8) 5 w' w.heap.size (fun _ => True) v3 ((fr m x1 x2 x3 x4 5).take (6 + k))) ∧ Aside0 (Below w.heap.size w w'))
        case atStart => exact ⟨0, rfl, ⟨rfl⟩, HO, BB⟩
        case round =>
          clear HO BB
          obtain ⟨k, rfl, HK2, HO, BB⟩ := hrel
          by_cases hk2 : k < 2
          · obtain ⟨gk2, rfl⟩ : ∃ j, gk = j + 1 := ⟨gk - 1, by have := HK2.out; omega⟩
            obtain rfl | rfl : k = 0 ∨ k = 1 := by omega
            · have tc := HT.out.at BB.out
              have t4 := tc.c4
              clear tc
              simp only [show ((0 : Nat) : Int) = 0 from rfl]
              go_wp2_with (first | ((with_reducible refine gate_builtin (b := .append) (xs := #[.tmp 29, .tmp 40]) rfl ?_); at_builtin; refine Kd.R_append (Kd.int .u8) (w0 := w) w.heap.size rfl (.tmp 29) (.tmp 40) 26 5 (.int .u8 0) 1 rfl Tryd.underlying26 info5 rfl (by decide) (by omega) _ ((fr m x1 x2 x3 x4 5).take (6 + 0)) (x4 / 256 % 256) [.int .u8 (x4 / 256 % 256)] (fun _ => True) (fun _ => False) rfl rfl ?aP (fun _ hk => hk.elim) ?aF ?aO ?aB ?aS ?aL ?_; (case aP => exact rfl); (case aB => exact BB.out); (case aF => exact (fun _ _ => trivial)); (case aO => exact HO.out); (case aS => exact below_size BB.out); (case aL => simp [fr]); intro v4 w4 ho hb hg hat; have HO4 := Aside0.mk ho; have B4 := Aside0.mk hb; clear ho hb hg hat HO BB))
              go_roundg gk2
              case measure => have := HK2.out; omega
              case rel => exact ⟨1, by go_num, ⟨by have := HK2.out; omega⟩, ⟨by simpa [fr] using HO4.out⟩, B4⟩
            · have tc := HT.out.at BB.out
              have t4 := tc.c4
              clear tc
              simp only [show ((1 : Nat) : Int) = 1 from rfl]
              go_wp2_with (first | ((with_reducible refine gate_builtin (b := .append) (xs := #[.tmp 29, .tmp 40]) rfl ?_); at_builtin; refine Kd.R_append (Kd.int .u8) (w0 := w) w.heap.size rfl (.tmp 29) (.tmp 40) 26 5 (.int .u8 0) 1 rfl Tryd.underlying26 info5 rfl (by decide) (by omega) _ ((fr m x1 x2 x3 x4 5).take (6 + 1)) (x4 % 256) [.int .u8 (x4 % 256)] (fun _ => True) (fun _ => False) rfl rfl ?aP (fun _ hk => hk.elim) ?aF ?aO ?aB ?aS ?aL ?_; (case aP => exact rfl); (case aB => exact BB.out); (case aF => exact (fun _ _ => trivial)); (case aO => exact HO.out); (case aS => exact below_size BB.out); (case aL => simp [fr]); intro v4 w4 ho hb hg hat; have HO4 := Aside0.mk ho; have B4 := Aside0.mk hb; clear ho hb hg hat HO BB))
              go_roundg gk2
              case measure => have := HK2.out; omega
              case rel => exact ⟨2, by go_num, ⟨by have := HK2.out; omega⟩, ⟨by simpa [fr] using HO4.out⟩, B4⟩
          · obtain rfl : k = 2 := by have := HK2.out; omega
            simp only [show ((2 : Nat) : Int) = 2 from rfl]
            clear HK2
            go_wp2_with fail
            go_roundg go
            case measure => have := HK.out; omega
            case rel => exact ⟨5, by go_num, ⟨by have := HK.out; omega⟩, HO, BB⟩
    · obtain rfl : i = 5 := by have := HK.out; omega
      simp only [show ((5 : Nat) : Int) = 5 from rfl]
      go_wp2_with fail
      go_ret
      exact ⟨_, rfl, HO.out, BB.out⟩
end Go.Proofs.YtbldecdipicddaaDoor.Hand
