/- The walk of the law EncoderNames. Written by wip/c2/mkenames.py. -/
import Derived.Test.YtgapkifgddjijaaHxKit
set_option linter.unusedSimpArgs false
set_option linter.unusedVariables false
namespace Go.Proofs.Ytgapkifgddjijaa.Hx
open Go Go.RowKit Go.Proofs.YtgapkifgddjijaaW.PrintWords Go.Proofs.YtgapkifgddjijaaW.PrintLast Go.Proofs.YtgapkifgddjijaaW.PrintMore
def enT.T25 : Bool × List (List Nat × List Nat) := (true, [([], []), ([0, 0], [0]), ([0, 1], [0, 1]), ([2, 1], [2]), ([3], [3]), ([4, 3], [3, 4]), ([3, 5], [3, 5]), ([6, 3], [6]), ([7], [7]), ([8, 7], [7, 8]), ([7, 9], [7, 9]), ([10, 7], [10]), ([11], [11]), ([12, 11], [11, 12]), ([11, 13], [11, 13]), ([14, 11], [14]), ([15], [15]), ([16, 15], [15, 16]), ([15, 17], [15, 17]), ([18, 15], [18]), ([19], [19]), ([20, 19], [19, 20]), ([19, 21], [19, 21]), ([22, 19], [22]), ([23], [23]), ([24, 23], [23, 24]), ([23, 25], [23, 25]), ([26, 23], [26]), ([27], [27]), ([28, 27], [27, 28]), ([27, 29], [27, 29]), ([30, 27], [30]), ([31], [31]), ([32, 31], [31, 32]), ([31, 33], [31, 33]), ([34, 31], [34]), ([35], [35]), ([36, 35], [35, 36]), ([37, 35], [35, 37]), ([35, 38], [35, 38]), ([39, 35], [39]), ([40], [40]), ([41, 40], [40, 41]), ([40, 42], [40, 42]), ([43, 40], [43]), ([44], [44]), ([45, 44], [44, 45]), ([44, 46], [44, 46]), ([47, 44], [47]), ([48], [48]), ([49, 48], [48, 49]), ([48, 50], [48, 50]), ([51, 48], [51]), ([52], [52]), ([53, 52], [52, 53]), ([52, 54], [52, 54]), ([55, 52], [55]), ([56], [56]), ([57, 56], [56, 57]), ([56], [56]), ([59, 56], [56, 59]), ([58, 60, 56], [56, 58, 60]), ([56, 61], [56, 61]), ([62, 56], [62]), ([63], [63]), ([64, 63], [63, 64]), ([63, 65], [63, 65]), ([66, 63], [66]), ([67], [67]), ([68, 67], [67, 68]), ([69, 67], [67, 69]), ([67, 70], [67, 70]), ([71, 67], [71]), ([72], [72]), ([73, 72], [72, 73]), ([74, 72], [72, 74]), ([72, 75], [72, 75]), ([76, 72], [76]), ([77], [77]), ([78, 77], [77, 78]), ([79, 77], [77, 79]), ([77], [77]), ([81, 77], [77, 81]), ([80, 82, 77], [77, 80, 82]), ([77, 83], [77, 83]), ([84, 77, 0, 1, 2, 3, 4, 5, 6, 7, 8, 9, 10, 11, 12, 13, 14, 15, 16, 17, 18, 19, 20, 21, 22, 23, 24, 25, 26, 27, 28, 29, 30, 31, 32, 33, 34, 35, 36, 37, 38, 39, 40, 41, 42, 43, 44, 45, 46, 47, 48, 49, 50, 51, 52, 53, 54, 55, 56, 57, 58, 59, 60, 61, 62, 63, 64, 65, 66, 67, 68, 69, 70, 71, 72, 73, 74, 75, 76, 77, 78, 79, 80, 81, 82, 83, 84], [84])])
def enT.B25 : List Nat := [0, 1, 3, 7, 15, 31, 63, 127, 255, 511, 1023, 2047, 4095, 8191, 16383, 32767, 65535, 131071, 262143, 524287, 1048575, 2097151, 4194303, 8388607, 16777215, 33554431, 67108863, 134217727, 268435455, 536870911, 1073741823, 2147483647, 4294967295, 8589934591, 17179869183, 34359738367, 68719476735, 137438953471, 274877906943, 549755813887, 1099511627775, 2199023255551, 4398046511103, 8796093022207, 17592186044415, 35184372088831, 70368744177663, 140737488355327, 281474976710655, 562949953421311, 1125899906842623, 2251799813685247, 4503599627370495, 9007199254740991, 18014398509481983, 36028797018963967, 72057594037927935, 144115188075855871, 288230376151711743, 144115188075855871, 720575940379279359, 2305843009213693951, 4611686018427387903, 9223372036854775807, 18446744073709551615, 36893488147419103231, 73786976294838206463, 147573952589676412927, 295147905179352825855, 590295810358705651711, 1180591620717411303423, 2361183241434822606847, 4722366482869645213695, 9444732965739290427391, 18889465931478580854783, 37778931862957161709567, 75557863725914323419135, 151115727451828646838271, 302231454903657293676543, 604462909807314587353087, 1208925819614629174706175, 302231454903657293676543, 2720083094132915643088895, 9671406556917033397649407, 19342813113834066795298815, 38685626227668133590597631]
theorem enT.tab25 : rtab .any (opsOf Try.f12 25) = enT.T25 := by kernel_rfl
theorem enT.bits25 : waitsOk enT.T25.2 enT.B25 = true := by kernel_rfl
set_option maxHeartbeats 6400000 in
set_option maxRecDepth 100000 in
theorem enames_walk (w : World) (ne : List Int) (hne : ne.length = 20000)
    (p0 : ∀ (W : World), Calls Try.prog 30 #[.agg #[.int .u32 0, .int .u32 0, .slice none 0 0], .int .i64 (-1), .bool true] W fun e w' => ∃ v0_ : Value, e = .returned (.tuple #[.agg #[.int .u32 0, .int .u32 0, v0_], .int .i64 8]) ∧ Kd.R (Kd.int .u8) 5 w' W.heap.size (fun _ => True) v0_ [] ∧ Below W.heap.size W w')
    (e0 : ∀ (W : World), Calls Try.prog 32 #[.agg #[.int .u32 0, .int .u32 0, .slice none 0 0]] W fun e w' => ∃ v0_ : Value, e = .returned (.tuple #[v0_, .int .i64 8]) ∧ Kd.R (Kd.int .u8) 5 w' W.heap.size (fun _ => True) v0_ [] ∧ Below W.heap.size W w')
    (c0 : ∀ (W : World), Calls Try.prog 37 #[.agg #[.int .u32 0, .int .u32 0, .slice none 0 0]] W fun e w' => e = .returned (.int .i64 8) ∧ Below W.heap.size W w')
    (p1 : ∀ (W : World), Calls Try.prog 30 #[.agg #[.int .u32 5, .int .u32 5, .slice none 0 0], .int .i64 (-1), .bool true] W fun e w' => ∃ v0_ : Value, e = .returned (.tuple #[.agg #[.int .u32 0, .int .u32 0, v0_], .int .i64 8]) ∧ Kd.R (Kd.int .u8) 5 w' W.heap.size (fun _ => True) v0_ [] ∧ Below W.heap.size W w')
    (e1 : ∀ (W : World), Calls Try.prog 32 #[.agg #[.int .u32 5, .int .u32 5, .slice none 0 0]] W fun e w' => ∃ v0_ : Value, e = .returned (.tuple #[v0_, .int .i64 8]) ∧ Kd.R (Kd.int .u8) 5 w' W.heap.size (fun _ => True) v0_ [] ∧ Below W.heap.size W w')
    (c1 : ∀ (W : World), Calls Try.prog 37 #[.agg #[.int .u32 5, .int .u32 5, .slice none 0 0]] W fun e w' => e = .returned (.int .i64 8) ∧ Below W.heap.size W w')
    (p2 : ∀ (W : World), Calls Try.prog 30 #[.agg #[.int .u32 5, .int .u32 6, .slice none 0 0], .int .i64 (-1), .bool true] W fun e w' => ∃ v0_ : Value, e = .returned (.tuple #[.agg #[.int .u32 0, .int .u32 0, v0_], .int .i64 8]) ∧ Kd.R (Kd.int .u8) 5 w' W.heap.size (fun _ => True) v0_ [] ∧ Below W.heap.size W w')
    (e2 : ∀ (W : World), Calls Try.prog 32 #[.agg #[.int .u32 5, .int .u32 6, .slice none 0 0]] W fun e w' => ∃ v0_ : Value, e = .returned (.tuple #[v0_, .int .i64 8]) ∧ Kd.R (Kd.int .u8) 5 w' W.heap.size (fun _ => True) v0_ [] ∧ Below W.heap.size W w')
    (c2 : ∀ (W : World), Calls Try.prog 37 #[.agg #[.int .u32 5, .int .u32 6, .slice none 0 0]] W fun e w' => e = .returned (.int .i64 8) ∧ Below W.heap.size W w')
    (p3 : ∀ (W : World), Calls Try.prog 30 #[.agg #[.int .u32 16777216, .int .u32 16777215, .slice none 0 0], .int .i64 (-1), .bool true] W fun e w' => ∃ v0_ : Value, e = .returned (.tuple #[.agg #[.int .u32 0, .int .u32 0, v0_], .int .i64 8]) ∧ Kd.R (Kd.int .u8) 5 w' W.heap.size (fun _ => True) v0_ [] ∧ Below W.heap.size W w')
    (e3 : ∀ (W : World), Calls Try.prog 32 #[.agg #[.int .u32 16777216, .int .u32 16777215, .slice none 0 0]] W fun e w' => ∃ v0_ : Value, e = .returned (.tuple #[v0_, .int .i64 8]) ∧ Kd.R (Kd.int .u8) 5 w' W.heap.size (fun _ => True) v0_ [] ∧ Below W.heap.size W w')
    (c3 : ∀ (W : World), Calls Try.prog 37 #[.agg #[.int .u32 16777216, .int .u32 16777215, .slice none 0 0]] W fun e w' => e = .returned (.int .i64 8) ∧ Below W.heap.size W w')
    (p4 : ∀ (W : World) (A : Option Addr) (c : Nat), Kd.C (Kd.int .u8) W A 20001 (List.replicate 20001 (0 : Int)) → 20001 ≤ c → Calls Try.prog 30 #[.agg #[.int .u32 0, .int .u32 4294967295, .slice A 20001 c], .int .i64 (-1), .bool true] W fun e w' => ∃ v0_ : Value, e = .returned (.tuple #[.agg #[.int .u32 0, .int .u32 0, v0_], .int .i64 8]) ∧ Kd.R (Kd.int .u8) 5 w' W.heap.size (fun _ => True) v0_ [] ∧ Below W.heap.size W w')
    (e4 : ∀ (W : World) (A : Option Addr) (c : Nat), Kd.C (Kd.int .u8) W A 20001 (List.replicate 20001 (0 : Int)) → 20001 ≤ c → Calls Try.prog 32 #[.agg #[.int .u32 0, .int .u32 4294967295, .slice A 20001 c]] W fun e w' => ∃ v0_ : Value, e = .returned (.tuple #[v0_, .int .i64 8]) ∧ Kd.R (Kd.int .u8) 5 w' W.heap.size (fun _ => True) v0_ [] ∧ Below W.heap.size W w')
    (c4 : ∀ (W : World) (A : Option Addr) (c : Nat), Kd.C (Kd.int .u8) W A 20001 (List.replicate 20001 (0 : Int)) → 20001 ≤ c → Calls Try.prog 37 #[.agg #[.int .u32 0, .int .u32 4294967295, .slice A 20001 c]] W fun e w' => e = .returned (.int .i64 8) ∧ Below W.heap.size W w')
    (nw : ∀ (W : World), Calls Try.prog 34 #[] W fun e w' => ∃ v0_ : Value, e = .returned (.agg #[.int .u32 0, .int .u32 4294967295, v0_]) ∧ Kd.R (Kd.int .u8) 5 w' W.heap.size (fun _ => True) v0_ [] ∧ Below W.heap.size W w')
    (pa : ∀ (W : World) (A : Option Addr) (c : Nat), Kd.C (Kd.int .u8) W A 0 [] → 0 ≤ c → Calls Try.prog 30 #[.agg #[.int .u32 0, .int .u32 4294967295, .slice A 0 c], .int .i64 4096, .bool true] W fun e w' => ∃ v0_ : Value, e = .returned (.tuple #[.agg #[.int .u32 0, .int .u32 0, v0_], .int .i64 2]) ∧ Kd.R (Kd.int .u8) 5 w' W.heap.size (fun _ => True) v0_ [] ∧ Below W.heap.size W w')
    (pb : ∀ (W : World) (A : Option Addr) (c : Nat), Kd.C (Kd.int .u8) W A 0 [] → 0 ≤ c → Calls Try.prog 30 #[.agg #[.int .u32 0, .int .u32 4294967295, .slice A 0 c], .int .i64 (-1), .bool true] W fun e w' => ∃ v0_ : Value, e = .returned (.tuple #[.agg #[.int .u32 0, .int .u32 0, v0_], .int .i64 2]) ∧ Kd.R (Kd.int .u8) 5 w' W.heap.size (fun _ => True) v0_ [] ∧ Below W.heap.size W w')
    (sa : ∀ (W : World), Calls Try.prog 28 #[.int .u32 6, .int .u32 6, .int .i64 1] W fun e w' => e = .returned (.tuple #[.int .u32 0, .int .i64 2]) ∧ Below W.heap.size W w')
    (sb : ∀ (W : World), Calls Try.prog 28 #[.int .u32 7, .int .u32 6, .int .i64 1] W fun e w' => e = .returned (.tuple #[.int .u32 0, .int .i64 2]) ∧ Below W.heap.size W w')
    (sc : ∀ (W : World), Calls Try.prog 28 #[.int .u32 0, .int .u32 1, .int .i64 4096] W fun e w' => e = .returned (.tuple #[.int .u32 0, .int .i64 2]) ∧ Below W.heap.size W w')
    (pf : ∀ (W : World) (A : Option Addr) (c : Nat), Kd.C (Kd.int .u8) W A 20000 (List.replicate 20000 (0 : Int)) → 20000 ≤ c → Calls Try.prog 30 #[.agg #[.int .u32 16777215, .int .u32 16777216, .slice A 20000 c], .int .i64 0, .bool true] W fun e w' => ∃ v0_ : Value, e = .returned (.tuple #[.agg #[.int .u32 0, .int .u32 0, v0_], .int .i64 4]) ∧ Kd.R (Kd.int .u8) 5 w' W.heap.size (fun _ => True) v0_ [] ∧ Below W.heap.size W w')
    (ef : ∀ (W : World) (A : Option Addr) (c : Nat), Kd.C (Kd.int .u8) W A 20000 (List.replicate 20000 (0 : Int)) → 20000 ≤ c → Calls Try.prog 32 #[.agg #[.int .u32 16777215, .int .u32 16777216, .slice A 20000 c]] W fun e w' => ∃ v0_ : Value, e = .returned (.tuple #[v0_, .int .i64 4]) ∧ Kd.R (Kd.int .u8) 5 w' W.heap.size (fun _ => True) v0_ [] ∧ Below W.heap.size W w')
    (en : ∀ (W : World) (A : Option Addr) (c : Nat), Kd.C (Kd.int .u8) W A 19996 (List.replicate 19996 (0 : Int)) → 19996 ≤ c → Calls Try.prog 32 #[.agg #[.int .u32 0, .int .u32 4294967295, .slice A 19996 c]] W fun e w' => ∃ v0_ : Value, e = .returned (.tuple #[v0_, .int .i64 0]) ∧ Kd.R (Kd.int .u8) 5 w' W.heap.size (fun _ => True) v0_ ne ∧ Below W.heap.size W w')
    (ra : ∀ (W : World) (A : Option Addr) (c : Nat) (B : Option Addr) (d : Nat), Kd.C (Kd.int .i64) W A 3 (List.replicate 3 (0 : Int)) → 3 ≤ c → Kd.C Kd.bool W B 2001 (List.replicate 2001 false) → 2001 ≤ d → Calls Try.prog 24 #[.slice A 3 c, .slice B 2001 d] W fun e w' => ∃ v0_ : Value, e = .returned (.tuple #[v0_, .int .i64 4]) ∧ Kd.R (Kd.int .u8) 5 w' W.heap.size (fun _ => True) v0_ [] ∧ Below W.heap.size W w')
    (rb : ∀ (W : World) (A : Option Addr) (c : Nat) (B : Option Addr) (d : Nat), Kd.C (Kd.int .i64) W A 3 (List.replicate 3 (0 : Int)) → 3 ≤ c → Kd.C Kd.bool W B 2 (List.replicate 2 false) → 2 ≤ d → Calls Try.prog 24 #[.slice A 3 c, .slice B 2 d] W fun e w' => ∃ v0_ : Value, e = .returned (.tuple #[v0_, .int .i64 2]) ∧ Kd.R (Kd.int .u8) 5 w' W.heap.size (fun _ => True) v0_ [] ∧ Below W.heap.size W w')
    (rc : ∀ (W : World) (A : Option Addr) (c : Nat) (B : Option Addr) (d : Nat), Kd.C (Kd.int .i64) W A 1 [4096] → 1 ≤ c → Kd.C Kd.bool W B 1 (List.replicate 1 false) → 1 ≤ d → Calls Try.prog 24 #[.slice A 1 c, .slice B 1 d] W fun e w' => ∃ v0_ : Value, e = .returned (.tuple #[v0_, .int .i64 2]) ∧ Kd.R (Kd.int .u8) 5 w' W.heap.size (fun _ => True) v0_ [] ∧ Below W.heap.size W w')
    (rd : ∀ (W : World), Calls Try.prog 24 #[.slice none 0 0, .slice none 0 0] W fun e w' => ∃ v0_ : Value, e = .returned (.tuple #[v0_, .int .i64 0]) ∧ Kd.R (Kd.int .u8) 5 w' W.heap.size (fun _ => True) v0_ (List.replicate 4 (0 : Int)) ∧ Below W.heap.size W w')
    (py : ∀ (W : World), Calls Try.prog 30 #[.agg #[.int .u32 16777215, .int .u32 16777216, .slice none 0 0], .int .i64 0, .bool true] W fun e w' => ∃ v0_ : Value, e = .returned (.tuple #[.agg #[.int .u32 0, .int .u32 4294967295, v0_], .int .i64 0]) ∧ Kd.R (Kd.int .u8) 5 w' W.heap.size (fun _ => True) v0_ [0, 255, 255, 255] ∧ Below W.heap.size W w')
    (al : ∀ (W : World), Calls Try.prog 26 #[] W fun e w' => e = .returned (.bool true) ∧ Below W.heap.size W w') :
    Calls Try.prog 12 #[] w fun e w' => e = .returned (.bool true) ∧ Below w.heap.size w w' := by
  have Hp0 := Aside0.mk p0
  have He0 := Aside0.mk e0
  have Hc0 := Aside0.mk c0
  have Hp1 := Aside0.mk p1
  have He1 := Aside0.mk e1
  have Hc1 := Aside0.mk c1
  have Hp2 := Aside0.mk p2
  have He2 := Aside0.mk e2
  have Hc2 := Aside0.mk c2
  have Hp3 := Aside0.mk p3
  have He3 := Aside0.mk e3
  have Hc3 := Aside0.mk c3
  have Hp4 := Aside0.mk p4
  have He4 := Aside0.mk e4
  have Hc4 := Aside0.mk c4
  have Hnw := Aside0.mk nw
  have Hpa := Aside0.mk pa
  have Hpb := Aside0.mk pb
  have Hsa := Aside0.mk sa
  have Hsb := Aside0.mk sb
  have Hsc := Aside0.mk sc
  have Hpf := Aside0.mk pf
  have Hef := Aside0.mk ef
  have Hen := Aside0.mk en
  have Hra := Aside0.mk ra
  have Hrb := Aside0.mk rb
  have Hrc := Aside0.mk rc
  have Hrd := Aside0.mk rd
  have Hpy := Aside0.mk py
  have Hal := Aside0.mk al
  have Hhne := Aside0.mk hne
  clear hne p0 e0 c0 p1 e1 c1 p2 e2 c2 p3 e3 c3 p4 e4 c4 nw pa pb sa sb sc pf ef en ra rb rc rd py al
  go_enter Try.func12, Try.ntmps12
  dsimp only [List.append]
  go_wp2_with (first | ((with_reducible refine gate_dst (N := 40) rfl ?_); refine Kd.R_make (Kd.int .u8) (w0 := w) _ 5 rfl (N := 40) rfl 30 _ _ rfl 20001 rfl rfl Try.underlying30 (.int .u8 0) 1 info5p rfl (by decide) (by decide) (0 : Int) (ok := fun _ => True) (okp := fun _ => True) rfl (fun _ h => h) trivial (by decide) (by decide) (Below.refl _ _) (Nat.le_refl _) ?_; intro v_ w1 hO_ hb_ hg_ _; clear hg_; obtain ⟨gm, c_gm, rfl, hle_, hC_⟩ := row_formK (n := 20001) hO_ List.length_replicate (by decide); have B2 := Aside0.mk (hb_); have R3 := Aside0.mk (show Kd.C (Kd.int .u8) w1 (some ⟨gm, 0, none⟩) 20001 (List.replicate 20001 (0 : Int)) from hC_); have L4 := Aside0.mk hle_; clear hO_ hb_ hle_ hC_ ) | ((with_reducible refine gate_dst (N := 42) rfl ?_); refine lit_event ?hg (N := 42) ?hd (cs := #[.int .u32 0, .int .u32 0, .slice none 0 0, .int .u32 5, .int .u32 5, .slice none 0 0, .int .u32 5, .int .u32 6, .slice none 0 0, .int .u32 16777216, .int .u32 16777215, .slice none 0 0, .int .u32 0, .int .u32 4294967295, .slice (some ⟨gm, 0, none⟩) 20001 c_gm]) (t := 42) (n := 5) ?hr ?_; (case hd => rfl); (case hg => rfl); (case hr => first | (go_simp; done) | (go_simp; rfl)); intro g5 hgg5 w6 hhg5 hbg5; have H11 := Aside0.mk hhg5; have G7 : w.heap.size ≤ g5 := Nat.le_trans B2.out.size (Nat.le_of_eq hgg5.symm); have G8 : w1.heap.size ≤ g5 := Nat.le_of_eq hgg5.symm; have B9 := Aside0.mk (below_step B2.out hbg5); have B10 := Aside0.mk (hbg5); clear hgg5 hhg5 hbg5 B2))
  go_loopg [2] 5 (fun m v2 w1 => ∃ (k : Nat), v2 = .int .i64 (k : Int) ∧ Aside0 (k + m = 5) ∧ Aside0 (w1.heap[g5]? = some (.cells #[.int .u32 0, .int .u32 0, .slice none 0 0, .int .u32 5, .int .u32 5, .slice none 0 0, .int .u32 5, .int .u32 6, .slice none 0 0, .int .u32 16777216, .int .u32 16777215, .slice none 0 0, .int .u32 0, .int .u32 4294967295, .slice (some ⟨gm, 0, none⟩) 20001 c_gm] 42 (0, 0))) ∧ Aside0 (Kd.C (Kd.int .u8) w1 (some ⟨gm, 0, none⟩) 20001 (List.replicate 20001 (0 : Int))) ∧ Aside0 (Below w.heap.size w w1))
  case atStart => exact ⟨0, rfl, ⟨by omega⟩, H11, ⟨(Kd.C_below R3.out B10.out)⟩, B9⟩
  case round =>
    clear H11 B9 R3
    obtain ⟨k, rfl, HK, HB, HC, BB⟩ := hrel
    have hc : k = 0 ∨ k = 1 ∨ k = 2 ∨ k = 3 ∨ k = 4 ∨ k = 5 := by have := HK.out; omega
    rcases hc with rfl | rfl | rfl | rfl | rfl | rfl
    · obtain ⟨go, rfl⟩ : ∃ j, gk = j + 1 := ⟨gk - 1, by have := HK.out; omega⟩
      go_wp2_with (first | ((with_reducible refine gate_dst (N := 53) rfl ?_); refine loadG_event (T := 42) (by rfl) rfl rfl (loadVar_sub (pre := []) (vs := [.int .u32 0, .int .u32 0, .slice none 0 0]) (post := [.int .u32 5, .int .u32 5, .slice none 0 0, .int .u32 5, .int .u32 6, .slice none 0 0, .int .u32 16777216, .int .u32 16777215, .slice none 0 0, .int .u32 0, .int .u32 4294967295, .slice (some ⟨gm, 0, none⟩) 20001 c_gm]) HB.out 42 (by kernel_rfl) (by kernel_rfl)) ?_))
      refine (Hp0.out wr).mono ?_
      rintro e w101 ⟨v0_, rfl, hR_, hb_⟩
      have B102 := Aside0.mk (below_step BB.out hb_)
      have B103 := Aside0.mk (hb_)
      have H104 := Aside0.mk (blk_below HB.out hb_)
      clear hb_ BB HB
      obtain ⟨rq105, cq105, rfl, hle_, hC_⟩ := Kd.R_reads hR_
      clear hle_ hC_ hR_
      rw [show ([] : List Int).length = 0 from rfl]
      go_wp2_with (first | ((with_reducible refine gate_dst (N := 3) rfl ?_); refine box_event ?hg (N := 3) ?hd (cs := #[.int .u32 0, .int .u32 0, .slice none 0 0]) (t := 42) ?hr ?_; (case hd => rfl); (case hg => rfl); (case hr => first | (go_simp; done) | (go_simp; rfl)); intro g106 hgg106 w107 hhg106 hbg106; have H114 := Aside0.mk hhg106; have N108 : g5 ≠ g106 := Nat.ne_of_lt (Nat.lt_of_lt_of_eq (blk_lt H104.out) hgg106.symm); have G109 : w.heap.size ≤ g106 := Nat.le_trans B102.out.size (Nat.le_of_eq hgg106.symm); have G110 : wr.heap.size ≤ g106 := Nat.le_trans B103.out.size (Nat.le_of_eq hgg106.symm); have B111 := Aside0.mk (below_step B102.out hbg106); have B112 := Aside0.mk (below_step B103.out hbg106); have H113 := Aside0.mk (blk_below H104.out hbg106); clear hgg106 hhg106 hbg106 B102 B103 H104) | ((with_reducible refine gate_store (t := 42) (p := _) rfl ?_); refine storeN_event (T := 42) rfl rfl rfl rfl rfl (storeVar_blk H114.out 42 0 [.int .u32 0, .int .u32 0, .slice rq105 0 cq105] (by kernel_rfl) rfl (by simp)) ?_; have H116 := Aside0.mk (show (World.setCells w107 g106 0 [.int .u32 0, .int .u32 0, .slice rq105 0 cq105]).heap[g106]? = some (.cells #[.int .u32 0, .int .u32 0, .slice rq105 0 cq105] 42 (0, 0)) from blk_setCells [] [.int .u32 0, .int .u32 0, .slice rq105 0 cq105] [.int .u32 0, .int .u32 0, .slice none 0 0] [] w107 rfl H114.out); have H117 := Aside0.mk (far_setCells N108 [.int .u32 0, .int .u32 0, .slice rq105 0 cq105] 0 w107 H113.out); have B118 := Aside0.mk (below_setCells G109 [.int .u32 0, .int .u32 0, .slice rq105 0 cq105] 0 w107 B111.out); have B119 := Aside0.mk (below_setCells G110 [.int .u32 0, .int .u32 0, .slice rq105 0 cq105] 0 w107 B112.out); clear H114 H113 B111 B112; generalize World.setCells w107 g106 0 [.int .u32 0, .int .u32 0, .slice rq105 0 cq105] = w115 at H117 H116 B118 B119 ⊢) | ((with_reducible refine gate_dst (N := 61) rfl ?_); refine loadG_event (T := 42) (by rfl) rfl rfl (loadVar_sub (pre := []) (vs := [.int .u32 0, .int .u32 0, .slice none 0 0]) (post := [.int .u32 5, .int .u32 5, .slice none 0 0, .int .u32 5, .int .u32 6, .slice none 0 0, .int .u32 16777216, .int .u32 16777215, .slice none 0 0, .int .u32 0, .int .u32 4294967295, .slice (some ⟨gm, 0, none⟩) 20001 c_gm]) H117.out 42 (by kernel_rfl) (by kernel_rfl)) ?_))
      refine (He0.out w115).mono ?_
      rintro e w120 ⟨v0_, rfl, hR_, hb_⟩
      have B121 := Aside0.mk (below_step B118.out hb_)
      have B122 := Aside0.mk (below_step B119.out hb_)
      have H123 := Aside0.mk (blk_below H117.out hb_)
      have H124 := Aside0.mk (blk_below H116.out hb_)
      clear hb_ B118 B119 H117 H116
      obtain ⟨rq125, cq125, rfl, hle_, hC_⟩ := Kd.R_reads hR_
      clear hle_ hC_ hR_
      rw [show ([] : List Int).length = 0 from rfl]
      go_wp2_with (first | ((with_reducible refine gate_dst (N := 68) rfl ?_); refine loadG_event (T := 42) (by rfl) rfl rfl (loadVar_sub (pre := []) (vs := [.int .u32 0, .int .u32 0, .slice none 0 0]) (post := [.int .u32 5, .int .u32 5, .slice none 0 0, .int .u32 5, .int .u32 6, .slice none 0 0, .int .u32 16777216, .int .u32 16777215, .slice none 0 0, .int .u32 0, .int .u32 4294967295, .slice (some ⟨gm, 0, none⟩) 20001 c_gm]) H123.out 42 (by kernel_rfl) (by kernel_rfl)) ?_))
      refine (Hc0.out w120).mono ?_
      rintro e w126 ⟨rfl, hb_⟩
      have B127 := Aside0.mk (below_step B121.out hb_)
      have B128 := Aside0.mk (below_step B122.out hb_)
      have H129 := Aside0.mk (blk_below H123.out hb_)
      have H130 := Aside0.mk (blk_below H124.out hb_)
      clear hb_ B121 B122 H123 H124
      go_wp2_with fail
      go_roundg go
      case measure => have := HK.out; omega
      case rel => exact ⟨1, rfl, ⟨by have := HK.out; omega⟩, H129, ⟨(Kd.C_below HC.out B128.out)⟩, B127⟩
    · obtain ⟨go, rfl⟩ : ∃ j, gk = j + 1 := ⟨gk - 1, by have := HK.out; omega⟩
      go_wp2_with (first | ((with_reducible refine gate_dst (N := 53) rfl ?_); refine loadG_event (T := 42) (by rfl) rfl rfl (loadVar_sub (pre := [.int .u32 0, .int .u32 0, .slice none 0 0]) (vs := [.int .u32 5, .int .u32 5, .slice none 0 0]) (post := [.int .u32 5, .int .u32 6, .slice none 0 0, .int .u32 16777216, .int .u32 16777215, .slice none 0 0, .int .u32 0, .int .u32 4294967295, .slice (some ⟨gm, 0, none⟩) 20001 c_gm]) HB.out 42 (by kernel_rfl) (by kernel_rfl)) ?_))
      refine (Hp1.out wr).mono ?_
      rintro e w201 ⟨v0_, rfl, hR_, hb_⟩
      have B202 := Aside0.mk (below_step BB.out hb_)
      have B203 := Aside0.mk (hb_)
      have H204 := Aside0.mk (blk_below HB.out hb_)
      clear hb_ BB HB
      obtain ⟨rq205, cq205, rfl, hle_, hC_⟩ := Kd.R_reads hR_
      clear hle_ hC_ hR_
      rw [show ([] : List Int).length = 0 from rfl]
      go_wp2_with (first | ((with_reducible refine gate_dst (N := 3) rfl ?_); refine box_event ?hg (N := 3) ?hd (cs := #[.int .u32 0, .int .u32 0, .slice none 0 0]) (t := 42) ?hr ?_; (case hd => rfl); (case hg => rfl); (case hr => first | (go_simp; done) | (go_simp; rfl)); intro g206 hgg206 w207 hhg206 hbg206; have H214 := Aside0.mk hhg206; have N208 : g5 ≠ g206 := Nat.ne_of_lt (Nat.lt_of_lt_of_eq (blk_lt H204.out) hgg206.symm); have G209 : w.heap.size ≤ g206 := Nat.le_trans B202.out.size (Nat.le_of_eq hgg206.symm); have G210 : wr.heap.size ≤ g206 := Nat.le_trans B203.out.size (Nat.le_of_eq hgg206.symm); have B211 := Aside0.mk (below_step B202.out hbg206); have B212 := Aside0.mk (below_step B203.out hbg206); have H213 := Aside0.mk (blk_below H204.out hbg206); clear hgg206 hhg206 hbg206 B202 B203 H204) | ((with_reducible refine gate_store (t := 42) (p := _) rfl ?_); refine storeN_event (T := 42) rfl rfl rfl rfl rfl (storeVar_blk H214.out 42 0 [.int .u32 0, .int .u32 0, .slice rq205 0 cq205] (by kernel_rfl) rfl (by simp)) ?_; have H216 := Aside0.mk (show (World.setCells w207 g206 0 [.int .u32 0, .int .u32 0, .slice rq205 0 cq205]).heap[g206]? = some (.cells #[.int .u32 0, .int .u32 0, .slice rq205 0 cq205] 42 (0, 0)) from blk_setCells [] [.int .u32 0, .int .u32 0, .slice rq205 0 cq205] [.int .u32 0, .int .u32 0, .slice none 0 0] [] w207 rfl H214.out); have H217 := Aside0.mk (far_setCells N208 [.int .u32 0, .int .u32 0, .slice rq205 0 cq205] 0 w207 H213.out); have B218 := Aside0.mk (below_setCells G209 [.int .u32 0, .int .u32 0, .slice rq205 0 cq205] 0 w207 B211.out); have B219 := Aside0.mk (below_setCells G210 [.int .u32 0, .int .u32 0, .slice rq205 0 cq205] 0 w207 B212.out); clear H214 H213 B211 B212; generalize World.setCells w207 g206 0 [.int .u32 0, .int .u32 0, .slice rq205 0 cq205] = w215 at H217 H216 B218 B219 ⊢) | ((with_reducible refine gate_dst (N := 61) rfl ?_); refine loadG_event (T := 42) (by rfl) rfl rfl (loadVar_sub (pre := [.int .u32 0, .int .u32 0, .slice none 0 0]) (vs := [.int .u32 5, .int .u32 5, .slice none 0 0]) (post := [.int .u32 5, .int .u32 6, .slice none 0 0, .int .u32 16777216, .int .u32 16777215, .slice none 0 0, .int .u32 0, .int .u32 4294967295, .slice (some ⟨gm, 0, none⟩) 20001 c_gm]) H217.out 42 (by kernel_rfl) (by kernel_rfl)) ?_))
      refine (He1.out w215).mono ?_
      rintro e w220 ⟨v0_, rfl, hR_, hb_⟩
      have B221 := Aside0.mk (below_step B218.out hb_)
      have B222 := Aside0.mk (below_step B219.out hb_)
      have H223 := Aside0.mk (blk_below H217.out hb_)
      have H224 := Aside0.mk (blk_below H216.out hb_)
      clear hb_ B218 B219 H217 H216
      obtain ⟨rq225, cq225, rfl, hle_, hC_⟩ := Kd.R_reads hR_
      clear hle_ hC_ hR_
      rw [show ([] : List Int).length = 0 from rfl]
      go_wp2_with (first | ((with_reducible refine gate_dst (N := 68) rfl ?_); refine loadG_event (T := 42) (by rfl) rfl rfl (loadVar_sub (pre := [.int .u32 0, .int .u32 0, .slice none 0 0]) (vs := [.int .u32 5, .int .u32 5, .slice none 0 0]) (post := [.int .u32 5, .int .u32 6, .slice none 0 0, .int .u32 16777216, .int .u32 16777215, .slice none 0 0, .int .u32 0, .int .u32 4294967295, .slice (some ⟨gm, 0, none⟩) 20001 c_gm]) H223.out 42 (by kernel_rfl) (by kernel_rfl)) ?_))
      refine (Hc1.out w220).mono ?_
      rintro e w226 ⟨rfl, hb_⟩
      have B227 := Aside0.mk (below_step B221.out hb_)
      have B228 := Aside0.mk (below_step B222.out hb_)
      have H229 := Aside0.mk (blk_below H223.out hb_)
      have H230 := Aside0.mk (blk_below H224.out hb_)
      clear hb_ B221 B222 H223 H224
      go_wp2_with fail
      go_roundg go
      case measure => have := HK.out; omega
      case rel => exact ⟨2, rfl, ⟨by have := HK.out; omega⟩, H229, ⟨(Kd.C_below HC.out B228.out)⟩, B227⟩
    · obtain ⟨go, rfl⟩ : ∃ j, gk = j + 1 := ⟨gk - 1, by have := HK.out; omega⟩
      go_wp2_with (first | ((with_reducible refine gate_dst (N := 53) rfl ?_); refine loadG_event (T := 42) (by rfl) rfl rfl (loadVar_sub (pre := [.int .u32 0, .int .u32 0, .slice none 0 0, .int .u32 5, .int .u32 5, .slice none 0 0]) (vs := [.int .u32 5, .int .u32 6, .slice none 0 0]) (post := [.int .u32 16777216, .int .u32 16777215, .slice none 0 0, .int .u32 0, .int .u32 4294967295, .slice (some ⟨gm, 0, none⟩) 20001 c_gm]) HB.out 42 (by kernel_rfl) (by kernel_rfl)) ?_))
      refine (Hp2.out wr).mono ?_
      rintro e w301 ⟨v0_, rfl, hR_, hb_⟩
      have B302 := Aside0.mk (below_step BB.out hb_)
      have B303 := Aside0.mk (hb_)
      have H304 := Aside0.mk (blk_below HB.out hb_)
      clear hb_ BB HB
      obtain ⟨rq305, cq305, rfl, hle_, hC_⟩ := Kd.R_reads hR_
      clear hle_ hC_ hR_
      rw [show ([] : List Int).length = 0 from rfl]
      go_wp2_with (first | ((with_reducible refine gate_dst (N := 3) rfl ?_); refine box_event ?hg (N := 3) ?hd (cs := #[.int .u32 0, .int .u32 0, .slice none 0 0]) (t := 42) ?hr ?_; (case hd => rfl); (case hg => rfl); (case hr => first | (go_simp; done) | (go_simp; rfl)); intro g306 hgg306 w307 hhg306 hbg306; have H314 := Aside0.mk hhg306; have N308 : g5 ≠ g306 := Nat.ne_of_lt (Nat.lt_of_lt_of_eq (blk_lt H304.out) hgg306.symm); have G309 : w.heap.size ≤ g306 := Nat.le_trans B302.out.size (Nat.le_of_eq hgg306.symm); have G310 : wr.heap.size ≤ g306 := Nat.le_trans B303.out.size (Nat.le_of_eq hgg306.symm); have B311 := Aside0.mk (below_step B302.out hbg306); have B312 := Aside0.mk (below_step B303.out hbg306); have H313 := Aside0.mk (blk_below H304.out hbg306); clear hgg306 hhg306 hbg306 B302 B303 H304) | ((with_reducible refine gate_store (t := 42) (p := _) rfl ?_); refine storeN_event (T := 42) rfl rfl rfl rfl rfl (storeVar_blk H314.out 42 0 [.int .u32 0, .int .u32 0, .slice rq305 0 cq305] (by kernel_rfl) rfl (by simp)) ?_; have H316 := Aside0.mk (show (World.setCells w307 g306 0 [.int .u32 0, .int .u32 0, .slice rq305 0 cq305]).heap[g306]? = some (.cells #[.int .u32 0, .int .u32 0, .slice rq305 0 cq305] 42 (0, 0)) from blk_setCells [] [.int .u32 0, .int .u32 0, .slice rq305 0 cq305] [.int .u32 0, .int .u32 0, .slice none 0 0] [] w307 rfl H314.out); have H317 := Aside0.mk (far_setCells N308 [.int .u32 0, .int .u32 0, .slice rq305 0 cq305] 0 w307 H313.out); have B318 := Aside0.mk (below_setCells G309 [.int .u32 0, .int .u32 0, .slice rq305 0 cq305] 0 w307 B311.out); have B319 := Aside0.mk (below_setCells G310 [.int .u32 0, .int .u32 0, .slice rq305 0 cq305] 0 w307 B312.out); clear H314 H313 B311 B312; generalize World.setCells w307 g306 0 [.int .u32 0, .int .u32 0, .slice rq305 0 cq305] = w315 at H317 H316 B318 B319 ⊢) | ((with_reducible refine gate_dst (N := 61) rfl ?_); refine loadG_event (T := 42) (by rfl) rfl rfl (loadVar_sub (pre := [.int .u32 0, .int .u32 0, .slice none 0 0, .int .u32 5, .int .u32 5, .slice none 0 0]) (vs := [.int .u32 5, .int .u32 6, .slice none 0 0]) (post := [.int .u32 16777216, .int .u32 16777215, .slice none 0 0, .int .u32 0, .int .u32 4294967295, .slice (some ⟨gm, 0, none⟩) 20001 c_gm]) H317.out 42 (by kernel_rfl) (by kernel_rfl)) ?_))
      refine (He2.out w315).mono ?_
      rintro e w320 ⟨v0_, rfl, hR_, hb_⟩
      have B321 := Aside0.mk (below_step B318.out hb_)
      have B322 := Aside0.mk (below_step B319.out hb_)
      have H323 := Aside0.mk (blk_below H317.out hb_)
      have H324 := Aside0.mk (blk_below H316.out hb_)
      clear hb_ B318 B319 H317 H316
      obtain ⟨rq325, cq325, rfl, hle_, hC_⟩ := Kd.R_reads hR_
      clear hle_ hC_ hR_
      rw [show ([] : List Int).length = 0 from rfl]
      go_wp2_with (first | ((with_reducible refine gate_dst (N := 68) rfl ?_); refine loadG_event (T := 42) (by rfl) rfl rfl (loadVar_sub (pre := [.int .u32 0, .int .u32 0, .slice none 0 0, .int .u32 5, .int .u32 5, .slice none 0 0]) (vs := [.int .u32 5, .int .u32 6, .slice none 0 0]) (post := [.int .u32 16777216, .int .u32 16777215, .slice none 0 0, .int .u32 0, .int .u32 4294967295, .slice (some ⟨gm, 0, none⟩) 20001 c_gm]) H323.out 42 (by kernel_rfl) (by kernel_rfl)) ?_))
      refine (Hc2.out w320).mono ?_
      rintro e w326 ⟨rfl, hb_⟩
      have B327 := Aside0.mk (below_step B321.out hb_)
      have B328 := Aside0.mk (below_step B322.out hb_)
      have H329 := Aside0.mk (blk_below H323.out hb_)
      have H330 := Aside0.mk (blk_below H324.out hb_)
      clear hb_ B321 B322 H323 H324
      go_wp2_with fail
      go_roundg go
      case measure => have := HK.out; omega
      case rel => exact ⟨3, rfl, ⟨by have := HK.out; omega⟩, H329, ⟨(Kd.C_below HC.out B328.out)⟩, B327⟩
    · obtain ⟨go, rfl⟩ : ∃ j, gk = j + 1 := ⟨gk - 1, by have := HK.out; omega⟩
      go_wp2_with (first | ((with_reducible refine gate_dst (N := 53) rfl ?_); refine loadG_event (T := 42) (by rfl) rfl rfl (loadVar_sub (pre := [.int .u32 0, .int .u32 0, .slice none 0 0, .int .u32 5, .int .u32 5, .slice none 0 0, .int .u32 5, .int .u32 6, .slice none 0 0]) (vs := [.int .u32 16777216, .int .u32 16777215, .slice none 0 0]) (post := [.int .u32 0, .int .u32 4294967295, .slice (some ⟨gm, 0, none⟩) 20001 c_gm]) HB.out 42 (by kernel_rfl) (by kernel_rfl)) ?_))
      refine (Hp3.out wr).mono ?_
      rintro e w401 ⟨v0_, rfl, hR_, hb_⟩
      have B402 := Aside0.mk (below_step BB.out hb_)
      have B403 := Aside0.mk (hb_)
      have H404 := Aside0.mk (blk_below HB.out hb_)
      clear hb_ BB HB
      obtain ⟨rq405, cq405, rfl, hle_, hC_⟩ := Kd.R_reads hR_
      clear hle_ hC_ hR_
      rw [show ([] : List Int).length = 0 from rfl]
      go_wp2_with (first | ((with_reducible refine gate_dst (N := 3) rfl ?_); refine box_event ?hg (N := 3) ?hd (cs := #[.int .u32 0, .int .u32 0, .slice none 0 0]) (t := 42) ?hr ?_; (case hd => rfl); (case hg => rfl); (case hr => first | (go_simp; done) | (go_simp; rfl)); intro g406 hgg406 w407 hhg406 hbg406; have H414 := Aside0.mk hhg406; have N408 : g5 ≠ g406 := Nat.ne_of_lt (Nat.lt_of_lt_of_eq (blk_lt H404.out) hgg406.symm); have G409 : w.heap.size ≤ g406 := Nat.le_trans B402.out.size (Nat.le_of_eq hgg406.symm); have G410 : wr.heap.size ≤ g406 := Nat.le_trans B403.out.size (Nat.le_of_eq hgg406.symm); have B411 := Aside0.mk (below_step B402.out hbg406); have B412 := Aside0.mk (below_step B403.out hbg406); have H413 := Aside0.mk (blk_below H404.out hbg406); clear hgg406 hhg406 hbg406 B402 B403 H404) | ((with_reducible refine gate_store (t := 42) (p := _) rfl ?_); refine storeN_event (T := 42) rfl rfl rfl rfl rfl (storeVar_blk H414.out 42 0 [.int .u32 0, .int .u32 0, .slice rq405 0 cq405] (by kernel_rfl) rfl (by simp)) ?_; have H416 := Aside0.mk (show (World.setCells w407 g406 0 [.int .u32 0, .int .u32 0, .slice rq405 0 cq405]).heap[g406]? = some (.cells #[.int .u32 0, .int .u32 0, .slice rq405 0 cq405] 42 (0, 0)) from blk_setCells [] [.int .u32 0, .int .u32 0, .slice rq405 0 cq405] [.int .u32 0, .int .u32 0, .slice none 0 0] [] w407 rfl H414.out); have H417 := Aside0.mk (far_setCells N408 [.int .u32 0, .int .u32 0, .slice rq405 0 cq405] 0 w407 H413.out); have B418 := Aside0.mk (below_setCells G409 [.int .u32 0, .int .u32 0, .slice rq405 0 cq405] 0 w407 B411.out); have B419 := Aside0.mk (below_setCells G410 [.int .u32 0, .int .u32 0, .slice rq405 0 cq405] 0 w407 B412.out); clear H414 H413 B411 B412; generalize World.setCells w407 g406 0 [.int .u32 0, .int .u32 0, .slice rq405 0 cq405] = w415 at H417 H416 B418 B419 ⊢) | ((with_reducible refine gate_dst (N := 61) rfl ?_); refine loadG_event (T := 42) (by rfl) rfl rfl (loadVar_sub (pre := [.int .u32 0, .int .u32 0, .slice none 0 0, .int .u32 5, .int .u32 5, .slice none 0 0, .int .u32 5, .int .u32 6, .slice none 0 0]) (vs := [.int .u32 16777216, .int .u32 16777215, .slice none 0 0]) (post := [.int .u32 0, .int .u32 4294967295, .slice (some ⟨gm, 0, none⟩) 20001 c_gm]) H417.out 42 (by kernel_rfl) (by kernel_rfl)) ?_))
      refine (He3.out w415).mono ?_
      rintro e w420 ⟨v0_, rfl, hR_, hb_⟩
      have B421 := Aside0.mk (below_step B418.out hb_)
      have B422 := Aside0.mk (below_step B419.out hb_)
      have H423 := Aside0.mk (blk_below H417.out hb_)
      have H424 := Aside0.mk (blk_below H416.out hb_)
      clear hb_ B418 B419 H417 H416
      obtain ⟨rq425, cq425, rfl, hle_, hC_⟩ := Kd.R_reads hR_
      clear hle_ hC_ hR_
      rw [show ([] : List Int).length = 0 from rfl]
      go_wp2_with (first | ((with_reducible refine gate_dst (N := 68) rfl ?_); refine loadG_event (T := 42) (by rfl) rfl rfl (loadVar_sub (pre := [.int .u32 0, .int .u32 0, .slice none 0 0, .int .u32 5, .int .u32 5, .slice none 0 0, .int .u32 5, .int .u32 6, .slice none 0 0]) (vs := [.int .u32 16777216, .int .u32 16777215, .slice none 0 0]) (post := [.int .u32 0, .int .u32 4294967295, .slice (some ⟨gm, 0, none⟩) 20001 c_gm]) H423.out 42 (by kernel_rfl) (by kernel_rfl)) ?_))
      refine (Hc3.out w420).mono ?_
      rintro e w426 ⟨rfl, hb_⟩
      have B427 := Aside0.mk (below_step B421.out hb_)
      have B428 := Aside0.mk (below_step B422.out hb_)
      have H429 := Aside0.mk (blk_below H423.out hb_)
      have H430 := Aside0.mk (blk_below H424.out hb_)
      clear hb_ B421 B422 H423 H424
      go_wp2_with fail
      go_roundg go
      case measure => have := HK.out; omega
      case rel => exact ⟨4, rfl, ⟨by have := HK.out; omega⟩, H429, ⟨(Kd.C_below HC.out B428.out)⟩, B427⟩
    · obtain ⟨go, rfl⟩ : ∃ j, gk = j + 1 := ⟨gk - 1, by have := HK.out; omega⟩
      go_wp2_with (first | ((with_reducible refine gate_dst (N := 53) rfl ?_); refine loadG_event (T := 42) (by rfl) rfl rfl (loadVar_sub (pre := [.int .u32 0, .int .u32 0, .slice none 0 0, .int .u32 5, .int .u32 5, .slice none 0 0, .int .u32 5, .int .u32 6, .slice none 0 0, .int .u32 16777216, .int .u32 16777215, .slice none 0 0]) (vs := [.int .u32 0, .int .u32 4294967295, .slice (some ⟨gm, 0, none⟩) 20001 c_gm]) (post := []) HB.out 42 (by kernel_rfl) (by kernel_rfl)) ?_))
      refine (Hp4.out wr (some ⟨gm, 0, none⟩) c_gm (Kd.C_below HC.out (Below.refl _ _)) L4.out).mono ?_
      rintro e w501 ⟨v0_, rfl, hR_, hb_⟩
      have B502 := Aside0.mk (below_step BB.out hb_)
      have B503 := Aside0.mk (hb_)
      have H504 := Aside0.mk (blk_below HB.out hb_)
      clear hb_ BB HB
      obtain ⟨rq505, cq505, rfl, hle_, hC_⟩ := Kd.R_reads hR_
      clear hle_ hC_ hR_
      rw [show ([] : List Int).length = 0 from rfl]
      go_wp2_with (first | ((with_reducible refine gate_dst (N := 3) rfl ?_); refine box_event ?hg (N := 3) ?hd (cs := #[.int .u32 0, .int .u32 0, .slice none 0 0]) (t := 42) ?hr ?_; (case hd => rfl); (case hg => rfl); (case hr => first | (go_simp; done) | (go_simp; rfl)); intro g506 hgg506 w507 hhg506 hbg506; have H514 := Aside0.mk hhg506; have N508 : g5 ≠ g506 := Nat.ne_of_lt (Nat.lt_of_lt_of_eq (blk_lt H504.out) hgg506.symm); have G509 : w.heap.size ≤ g506 := Nat.le_trans B502.out.size (Nat.le_of_eq hgg506.symm); have G510 : wr.heap.size ≤ g506 := Nat.le_trans B503.out.size (Nat.le_of_eq hgg506.symm); have B511 := Aside0.mk (below_step B502.out hbg506); have B512 := Aside0.mk (below_step B503.out hbg506); have H513 := Aside0.mk (blk_below H504.out hbg506); clear hgg506 hhg506 hbg506 B502 B503 H504) | ((with_reducible refine gate_store (t := 42) (p := _) rfl ?_); refine storeN_event (T := 42) rfl rfl rfl rfl rfl (storeVar_blk H514.out 42 0 [.int .u32 0, .int .u32 0, .slice rq505 0 cq505] (by kernel_rfl) rfl (by simp)) ?_; have H516 := Aside0.mk (show (World.setCells w507 g506 0 [.int .u32 0, .int .u32 0, .slice rq505 0 cq505]).heap[g506]? = some (.cells #[.int .u32 0, .int .u32 0, .slice rq505 0 cq505] 42 (0, 0)) from blk_setCells [] [.int .u32 0, .int .u32 0, .slice rq505 0 cq505] [.int .u32 0, .int .u32 0, .slice none 0 0] [] w507 rfl H514.out); have H517 := Aside0.mk (far_setCells N508 [.int .u32 0, .int .u32 0, .slice rq505 0 cq505] 0 w507 H513.out); have B518 := Aside0.mk (below_setCells G509 [.int .u32 0, .int .u32 0, .slice rq505 0 cq505] 0 w507 B511.out); have B519 := Aside0.mk (below_setCells G510 [.int .u32 0, .int .u32 0, .slice rq505 0 cq505] 0 w507 B512.out); clear H514 H513 B511 B512; generalize World.setCells w507 g506 0 [.int .u32 0, .int .u32 0, .slice rq505 0 cq505] = w515 at H517 H516 B518 B519 ⊢) | ((with_reducible refine gate_dst (N := 61) rfl ?_); refine loadG_event (T := 42) (by rfl) rfl rfl (loadVar_sub (pre := [.int .u32 0, .int .u32 0, .slice none 0 0, .int .u32 5, .int .u32 5, .slice none 0 0, .int .u32 5, .int .u32 6, .slice none 0 0, .int .u32 16777216, .int .u32 16777215, .slice none 0 0]) (vs := [.int .u32 0, .int .u32 4294967295, .slice (some ⟨gm, 0, none⟩) 20001 c_gm]) (post := []) H517.out 42 (by kernel_rfl) (by kernel_rfl)) ?_))
      refine (He4.out w515 (some ⟨gm, 0, none⟩) c_gm (Kd.C_below HC.out B519.out) L4.out).mono ?_
      rintro e w520 ⟨v0_, rfl, hR_, hb_⟩
      have B521 := Aside0.mk (below_step B518.out hb_)
      have B522 := Aside0.mk (below_step B519.out hb_)
      have H523 := Aside0.mk (blk_below H517.out hb_)
      have H524 := Aside0.mk (blk_below H516.out hb_)
      clear hb_ B518 B519 H517 H516
      obtain ⟨rq525, cq525, rfl, hle_, hC_⟩ := Kd.R_reads hR_
      clear hle_ hC_ hR_
      rw [show ([] : List Int).length = 0 from rfl]
      go_wp2_with (first | ((with_reducible refine gate_dst (N := 68) rfl ?_); refine loadG_event (T := 42) (by rfl) rfl rfl (loadVar_sub (pre := [.int .u32 0, .int .u32 0, .slice none 0 0, .int .u32 5, .int .u32 5, .slice none 0 0, .int .u32 5, .int .u32 6, .slice none 0 0, .int .u32 16777216, .int .u32 16777215, .slice none 0 0]) (vs := [.int .u32 0, .int .u32 4294967295, .slice (some ⟨gm, 0, none⟩) 20001 c_gm]) (post := []) H523.out 42 (by kernel_rfl) (by kernel_rfl)) ?_))
      refine (Hc4.out w520 (some ⟨gm, 0, none⟩) c_gm (Kd.C_below HC.out B522.out) L4.out).mono ?_
      rintro e w526 ⟨rfl, hb_⟩
      have B527 := Aside0.mk (below_step B521.out hb_)
      have B528 := Aside0.mk (below_step B522.out hb_)
      have H529 := Aside0.mk (blk_below H523.out hb_)
      have H530 := Aside0.mk (blk_below H524.out hb_)
      clear hb_ B521 B522 H523 H524
      go_wp2_with fail
      go_roundg go
      case measure => have := HK.out; omega
      case rel => exact ⟨5, rfl, ⟨by have := HK.out; omega⟩, H529, ⟨(Kd.C_below HC.out B528.out)⟩, B527⟩
    · clear HK HB HC
      have h0 := True.intro
      go_wp2_with fail
      refine (Hnw.out wr).mono ?_
      rintro e w2001 ⟨v0_, rfl, hR_, hb_⟩
      have B2002 := Aside0.mk (below_step BB.out hb_)
      clear hb_ BB
      obtain ⟨rn, c_rn, rfl, hle_, hC_⟩ := Kd.R_reads hR_
      rw [show ([] : List Int).length = 0 from rfl] at hC_ hle_ ⊢
      have Rrn := Aside0.mk hC_
      have Lrn := Aside0.mk hle_
      clear hle_ hC_ hR_
      go_wp2_with (first | ((with_reducible refine gate_dst (N := 7) rfl ?_); refine box_event ?hg (N := 7) ?hd (cs := #[.int .u32 0, .int .u32 0, .slice none 0 0]) (t := 42) ?hr ?_; (case hd => rfl); (case hg => rfl); (case hr => first | (go_simp; done) | (go_simp; rfl)); intro g2003 hgg2003 w2004 hhg2003 hbg2003; have H2009 := Aside0.mk hhg2003; have G2005 : w.heap.size ≤ g2003 := Nat.le_trans B2002.out.size (Nat.le_of_eq hgg2003.symm); have G2006 : w2001.heap.size ≤ g2003 := Nat.le_of_eq hgg2003.symm; have B2007 := Aside0.mk (below_step B2002.out hbg2003); have B2008 := Aside0.mk (hbg2003); clear hgg2003 hhg2003 hbg2003 B2002) | ((with_reducible refine gate_store (t := 42) (p := _) rfl ?_); refine storeN_event (T := 42) rfl rfl rfl rfl rfl (storeVar_blk H2009.out 42 0 [.int .u32 0, .int .u32 4294967295, .slice rn 0 c_rn] (by kernel_rfl) rfl (by simp)) ?_; have H2011 := Aside0.mk (show (World.setCells w2004 g2003 0 [.int .u32 0, .int .u32 4294967295, .slice rn 0 c_rn]).heap[g2003]? = some (.cells #[.int .u32 0, .int .u32 4294967295, .slice rn 0 c_rn] 42 (0, 0)) from blk_setCells [] [.int .u32 0, .int .u32 4294967295, .slice rn 0 c_rn] [.int .u32 0, .int .u32 0, .slice none 0 0] [] w2004 rfl H2009.out); have B2012 := Aside0.mk (below_setCells G2005 [.int .u32 0, .int .u32 4294967295, .slice rn 0 c_rn] 0 w2004 B2007.out); have B2013 := Aside0.mk (below_setCells G2006 [.int .u32 0, .int .u32 4294967295, .slice rn 0 c_rn] 0 w2004 B2008.out); clear H2009 B2007 B2008; generalize World.setCells w2004 g2003 0 [.int .u32 0, .int .u32 4294967295, .slice rn 0 c_rn] = w2010 at H2011 B2012 B2013 ⊢) | ((with_reducible refine gate_dst (N := 81) rfl ?_); refine loadG_event (T := 42) (by rfl) rfl rfl (run_loadVar_row _ _ _ _ _ (0, 0) _ H2011.out Try.underlying42 rfl (by kernel_rfl)) ?_))
      refine (Hpa.out w2010 rn c_rn (Kd.C_below Rrn.out B2013.out) Lrn.out).mono ?_
      rintro e w2014 ⟨v0_, rfl, hR_, hb_⟩
      have B2015 := Aside0.mk (below_step B2012.out hb_)
      have B2016 := Aside0.mk (below_step B2013.out hb_)
      have H2017 := Aside0.mk (blk_below H2011.out hb_)
      clear hb_ B2012 B2013 H2011
      obtain ⟨rq2018, cq2018, rfl, hle_, hC_⟩ := Kd.R_reads hR_
      clear hle_ hC_ hR_
      rw [show ([] : List Int).length = 0 from rfl]
      go_wp2_with (first | ((with_reducible refine gate_dst (N := 8) rfl ?_); refine box_event ?hg (N := 8) ?hd (cs := #[.int .u32 0, .int .u32 0, .slice none 0 0]) (t := 42) ?hr ?_; (case hd => rfl); (case hg => rfl); (case hr => first | (go_simp; done) | (go_simp; rfl)); intro g2019 hgg2019 w2020 hhg2019 hbg2019; have H2027 := Aside0.mk hhg2019; have N2021 : g2003 ≠ g2019 := Nat.ne_of_lt (Nat.lt_of_lt_of_eq (blk_lt H2017.out) hgg2019.symm); have G2022 : w.heap.size ≤ g2019 := Nat.le_trans B2015.out.size (Nat.le_of_eq hgg2019.symm); have G2023 : w2001.heap.size ≤ g2019 := Nat.le_trans B2016.out.size (Nat.le_of_eq hgg2019.symm); have B2024 := Aside0.mk (below_step B2015.out hbg2019); have B2025 := Aside0.mk (below_step B2016.out hbg2019); have H2026 := Aside0.mk (blk_below H2017.out hbg2019); clear hgg2019 hhg2019 hbg2019 B2015 B2016 H2017) | ((with_reducible refine gate_store (t := 42) (p := _) rfl ?_); refine storeN_event (T := 42) rfl rfl rfl rfl rfl (storeVar_blk H2027.out 42 0 [.int .u32 0, .int .u32 0, .slice rq2018 0 cq2018] (by kernel_rfl) rfl (by simp)) ?_; have H2029 := Aside0.mk (show (World.setCells w2020 g2019 0 [.int .u32 0, .int .u32 0, .slice rq2018 0 cq2018]).heap[g2019]? = some (.cells #[.int .u32 0, .int .u32 0, .slice rq2018 0 cq2018] 42 (0, 0)) from blk_setCells [] [.int .u32 0, .int .u32 0, .slice rq2018 0 cq2018] [.int .u32 0, .int .u32 0, .slice none 0 0] [] w2020 rfl H2027.out); have H2030 := Aside0.mk (far_setCells N2021 [.int .u32 0, .int .u32 0, .slice rq2018 0 cq2018] 0 w2020 H2026.out); have B2031 := Aside0.mk (below_setCells G2022 [.int .u32 0, .int .u32 0, .slice rq2018 0 cq2018] 0 w2020 B2024.out); have B2032 := Aside0.mk (below_setCells G2023 [.int .u32 0, .int .u32 0, .slice rq2018 0 cq2018] 0 w2020 B2025.out); clear H2027 H2026 B2024 B2025; generalize World.setCells w2020 g2019 0 [.int .u32 0, .int .u32 0, .slice rq2018 0 cq2018] = w2028 at H2030 H2029 B2031 B2032 ⊢) | ((with_reducible refine gate_dst (N := 86) rfl ?_); refine loadG_event (T := 42) (by rfl) rfl rfl (run_loadVar_row _ _ _ _ _ (0, 0) _ H2030.out Try.underlying42 rfl (by kernel_rfl)) ?_))
      refine (Hpb.out w2028 rn c_rn (Kd.C_below Rrn.out B2032.out) Lrn.out).mono ?_
      rintro e w2033 ⟨v0_, rfl, hR_, hb_⟩
      have B2034 := Aside0.mk (below_step B2031.out hb_)
      have B2035 := Aside0.mk (below_step B2032.out hb_)
      have H2036 := Aside0.mk (blk_below H2030.out hb_)
      clear hb_ B2031 B2032 H2030
      obtain ⟨rq2037, cq2037, rfl, hle_, hC_⟩ := Kd.R_reads hR_
      clear hle_ hC_ hR_
      rw [show ([] : List Int).length = 0 from rfl]
      go_wp2_with (first | ((with_reducible refine gate_dst (N := 10) rfl ?_); refine box_event ?hg (N := 10) ?hd (cs := #[.int .u32 0, .int .u32 0, .slice none 0 0]) (t := 42) ?hr ?_; (case hd => rfl); (case hg => rfl); (case hr => first | (go_simp; done) | (go_simp; rfl)); intro g2038 hgg2038 w2039 hhg2038 hbg2038; have H2046 := Aside0.mk hhg2038; have N2040 : g2003 ≠ g2038 := Nat.ne_of_lt (Nat.lt_of_lt_of_eq (blk_lt H2036.out) hgg2038.symm); have G2041 : w.heap.size ≤ g2038 := Nat.le_trans B2034.out.size (Nat.le_of_eq hgg2038.symm); have G2042 : w2001.heap.size ≤ g2038 := Nat.le_trans B2035.out.size (Nat.le_of_eq hgg2038.symm); have B2043 := Aside0.mk (below_step B2034.out hbg2038); have B2044 := Aside0.mk (below_step B2035.out hbg2038); have H2045 := Aside0.mk (blk_below H2036.out hbg2038); clear hgg2038 hhg2038 hbg2038 B2034 B2035 H2036) | ((with_reducible refine gate_store (t := 42) (p := _) rfl ?_); refine storeN_event (T := 42) rfl rfl rfl rfl rfl (storeVar_blk H2046.out 42 0 [.int .u32 0, .int .u32 0, .slice rq2037 0 cq2037] (by kernel_rfl) rfl (by simp)) ?_; have H2048 := Aside0.mk (show (World.setCells w2039 g2038 0 [.int .u32 0, .int .u32 0, .slice rq2037 0 cq2037]).heap[g2038]? = some (.cells #[.int .u32 0, .int .u32 0, .slice rq2037 0 cq2037] 42 (0, 0)) from blk_setCells [] [.int .u32 0, .int .u32 0, .slice rq2037 0 cq2037] [.int .u32 0, .int .u32 0, .slice none 0 0] [] w2039 rfl H2046.out); have H2049 := Aside0.mk (far_setCells N2040 [.int .u32 0, .int .u32 0, .slice rq2037 0 cq2037] 0 w2039 H2045.out); have B2050 := Aside0.mk (below_setCells G2041 [.int .u32 0, .int .u32 0, .slice rq2037 0 cq2037] 0 w2039 B2043.out); have B2051 := Aside0.mk (below_setCells G2042 [.int .u32 0, .int .u32 0, .slice rq2037 0 cq2037] 0 w2039 B2044.out); clear H2046 H2045 B2043 B2044; generalize World.setCells w2039 g2038 0 [.int .u32 0, .int .u32 0, .slice rq2037 0 cq2037] = w2047 at H2049 H2048 B2050 B2051 ⊢))
      refine (Hsa.out w2047).mono ?_
      rintro e w2052 ⟨rfl, hb_⟩
      have B2053 := Aside0.mk (below_step B2050.out hb_)
      have B2054 := Aside0.mk (below_step B2051.out hb_)
      have H2055 := Aside0.mk (blk_below H2049.out hb_)
      clear hb_ B2050 B2051 H2049
      go_wp2_with fail
      refine (Hsb.out w2052).mono ?_
      rintro e w2056 ⟨rfl, hb_⟩
      have B2057 := Aside0.mk (below_step B2053.out hb_)
      have B2058 := Aside0.mk (below_step B2054.out hb_)
      have H2059 := Aside0.mk (blk_below H2055.out hb_)
      clear hb_ B2053 B2054 H2055
      go_wp2_with fail
      refine (Hsc.out w2056).mono ?_
      rintro e w2060 ⟨rfl, hb_⟩
      have B2061 := Aside0.mk (below_step B2057.out hb_)
      have B2062 := Aside0.mk (below_step B2058.out hb_)
      have H2063 := Aside0.mk (blk_below H2059.out hb_)
      clear hb_ B2057 B2058 H2059
      go_wp2_with (first | ((with_reducible refine gate_dst (N := 102) rfl ?_); refine Kd.R_make (Kd.int .u8) (w0 := w2060) _ 5 rfl (N := 102) rfl 30 _ _ rfl 20000 rfl rfl Try.underlying30 (.int .u8 0) 1 info5p rfl (by decide) (by decide) (0 : Int) (ok := fun _ => True) (okp := fun _ => True) rfl (fun _ h => h) trivial (by decide) (by decide) (Below.refl _ _) (Nat.le_refl _) ?_; intro v_ w2064 hO_ hb_ hg_ _; clear hg_; obtain ⟨gq, c_gq, rfl, hle_, hC_⟩ := row_formK (n := 20000) hO_ List.length_replicate (by decide); have B2065 := Aside0.mk (below_step B2061.out hb_); have R2066 := Aside0.mk (show Kd.C (Kd.int .u8) w2064 (some ⟨gq, 0, none⟩) 20000 (List.replicate 20000 (0 : Int)) from hC_); have L2067 := Aside0.mk hle_; clear hO_ hb_ hle_ hC_ B2061) | ((with_reducible refine gate_dst (N := 18) rfl ?_); refine box_event ?hg (N := 18) ?hd (cs := #[.int .u32 0, .int .u32 0, .slice none 0 0]) (t := 42) ?hr ?_; (case hd => rfl); (case hg => rfl); (case hr => first | (go_simp; done) | (go_simp; rfl)); intro g2068 hgg2068 w2069 hhg2068 hbg2068; have H2074 := Aside0.mk hhg2068; have G2070 : w.heap.size ≤ g2068 := Nat.le_trans B2065.out.size (Nat.le_of_eq hgg2068.symm); have G2071 : w2064.heap.size ≤ g2068 := Nat.le_of_eq hgg2068.symm; have B2072 := Aside0.mk (below_step B2065.out hbg2068); have B2073 := Aside0.mk (hbg2068); clear hgg2068 hhg2068 hbg2068 B2065) | ((with_reducible refine gate_store (t := 42) (p := _) rfl ?_); refine storeN_event (T := 42) rfl rfl rfl rfl rfl (storeVar_blk H2074.out 42 0 [.int .u32 16777215, .int .u32 16777216, .slice (some ⟨gq, 0, none⟩) 20000 c_gq] (by kernel_rfl) rfl (by simp)) ?_; have H2076 := Aside0.mk (show (World.setCells w2069 g2068 0 [.int .u32 16777215, .int .u32 16777216, .slice (some ⟨gq, 0, none⟩) 20000 c_gq]).heap[g2068]? = some (.cells #[.int .u32 16777215, .int .u32 16777216, .slice (some ⟨gq, 0, none⟩) 20000 c_gq] 42 (0, 0)) from blk_setCells [] [.int .u32 16777215, .int .u32 16777216, .slice (some ⟨gq, 0, none⟩) 20000 c_gq] [.int .u32 0, .int .u32 0, .slice none 0 0] [] w2069 rfl H2074.out); have B2077 := Aside0.mk (below_setCells G2070 [.int .u32 16777215, .int .u32 16777216, .slice (some ⟨gq, 0, none⟩) 20000 c_gq] 0 w2069 B2072.out); have B2078 := Aside0.mk (below_setCells G2071 [.int .u32 16777215, .int .u32 16777216, .slice (some ⟨gq, 0, none⟩) 20000 c_gq] 0 w2069 B2073.out); clear H2074 B2072 B2073; generalize World.setCells w2069 g2068 0 [.int .u32 16777215, .int .u32 16777216, .slice (some ⟨gq, 0, none⟩) 20000 c_gq] = w2075 at H2076 B2077 B2078 ⊢) | ((with_reducible refine gate_dst (N := 105) rfl ?_); refine loadG_event (T := 42) (by rfl) rfl rfl (run_loadVar_row _ _ _ _ _ (0, 0) _ H2076.out Try.underlying42 rfl (by kernel_rfl)) ?_))
      refine (Hpf.out w2075 (some ⟨gq, 0, none⟩) c_gq (Kd.C_below R2066.out B2078.out) L2067.out).mono ?_
      rintro e w2079 ⟨v0_, rfl, hR_, hb_⟩
      have B2080 := Aside0.mk (below_step B2077.out hb_)
      have B2081 := Aside0.mk (below_step B2078.out hb_)
      have H2082 := Aside0.mk (blk_below H2076.out hb_)
      clear hb_ B2077 B2078 H2076
      obtain ⟨rq2083, cq2083, rfl, hle_, hC_⟩ := Kd.R_reads hR_
      clear hle_ hC_ hR_
      rw [show ([] : List Int).length = 0 from rfl]
      go_wp2_with (first | ((with_reducible refine gate_dst (N := 19) rfl ?_); refine box_event ?hg (N := 19) ?hd (cs := #[.int .u32 0, .int .u32 0, .slice none 0 0]) (t := 42) ?hr ?_; (case hd => rfl); (case hg => rfl); (case hr => first | (go_simp; done) | (go_simp; rfl)); intro g2084 hgg2084 w2085 hhg2084 hbg2084; have H2092 := Aside0.mk hhg2084; have N2086 : g2068 ≠ g2084 := Nat.ne_of_lt (Nat.lt_of_lt_of_eq (blk_lt H2082.out) hgg2084.symm); have G2087 : w.heap.size ≤ g2084 := Nat.le_trans B2080.out.size (Nat.le_of_eq hgg2084.symm); have G2088 : w2064.heap.size ≤ g2084 := Nat.le_trans B2081.out.size (Nat.le_of_eq hgg2084.symm); have B2089 := Aside0.mk (below_step B2080.out hbg2084); have B2090 := Aside0.mk (below_step B2081.out hbg2084); have H2091 := Aside0.mk (blk_below H2082.out hbg2084); clear hgg2084 hhg2084 hbg2084 B2080 B2081 H2082) | ((with_reducible refine gate_store (t := 42) (p := _) rfl ?_); refine storeN_event (T := 42) rfl rfl rfl rfl rfl (storeVar_blk H2092.out 42 0 [.int .u32 0, .int .u32 0, .slice rq2083 0 cq2083] (by kernel_rfl) rfl (by simp)) ?_; have H2094 := Aside0.mk (show (World.setCells w2085 g2084 0 [.int .u32 0, .int .u32 0, .slice rq2083 0 cq2083]).heap[g2084]? = some (.cells #[.int .u32 0, .int .u32 0, .slice rq2083 0 cq2083] 42 (0, 0)) from blk_setCells [] [.int .u32 0, .int .u32 0, .slice rq2083 0 cq2083] [.int .u32 0, .int .u32 0, .slice none 0 0] [] w2085 rfl H2092.out); have H2095 := Aside0.mk (far_setCells N2086 [.int .u32 0, .int .u32 0, .slice rq2083 0 cq2083] 0 w2085 H2091.out); have B2096 := Aside0.mk (below_setCells G2087 [.int .u32 0, .int .u32 0, .slice rq2083 0 cq2083] 0 w2085 B2089.out); have B2097 := Aside0.mk (below_setCells G2088 [.int .u32 0, .int .u32 0, .slice rq2083 0 cq2083] 0 w2085 B2090.out); clear H2092 H2091 B2089 B2090; generalize World.setCells w2085 g2084 0 [.int .u32 0, .int .u32 0, .slice rq2083 0 cq2083] = w2093 at H2095 H2094 B2096 B2097 ⊢) | ((with_reducible refine gate_dst (N := 110) rfl ?_); refine loadG_event (T := 42) (by rfl) rfl rfl (run_loadVar_row _ _ _ _ _ (0, 0) _ H2095.out Try.underlying42 rfl (by kernel_rfl)) ?_))
      refine (Hef.out w2093 (some ⟨gq, 0, none⟩) c_gq (Kd.C_below R2066.out B2097.out) L2067.out).mono ?_
      rintro e w2098 ⟨v0_, rfl, hR_, hb_⟩
      have B2099 := Aside0.mk (below_step B2096.out hb_)
      have B2100 := Aside0.mk (below_step B2097.out hb_)
      have H2101 := Aside0.mk (blk_below H2095.out hb_)
      clear hb_ B2096 B2097 H2095
      obtain ⟨rq2102, cq2102, rfl, hle_, hC_⟩ := Kd.R_reads hR_
      clear hle_ hC_ hR_
      rw [show ([] : List Int).length = 0 from rfl]
      go_wp2_with (first | ((with_reducible refine gate_dst (N := 114) rfl ?_); refine Kd.R_make (Kd.int .u8) (w0 := w2098) _ 5 rfl (N := 114) rfl 30 _ _ rfl 19996 rfl rfl Try.underlying30 (.int .u8 0) 1 info5p rfl (by decide) (by decide) (0 : Int) (ok := fun _ => True) (okp := fun _ => True) rfl (fun _ h => h) trivial (by decide) (by decide) (Below.refl _ _) (Nat.le_refl _) ?_; intro v_ w2103 hO_ hb_ hg_ _; clear hg_; obtain ⟨gr, c_gr, rfl, hle_, hC_⟩ := row_formK (n := 19996) hO_ List.length_replicate (by decide); have B2104 := Aside0.mk (below_step B2099.out hb_); have R2105 := Aside0.mk (show Kd.C (Kd.int .u8) w2103 (some ⟨gr, 0, none⟩) 19996 (List.replicate 19996 (0 : Int)) from hC_); have L2106 := Aside0.mk hle_; clear hO_ hb_ hle_ hC_ B2099) | ((with_reducible refine gate_dst (N := 23) rfl ?_); refine box_event ?hg (N := 23) ?hd (cs := #[.int .u32 0, .int .u32 0, .slice none 0 0]) (t := 42) ?hr ?_; (case hd => rfl); (case hg => rfl); (case hr => first | (go_simp; done) | (go_simp; rfl)); intro g2107 hgg2107 w2108 hhg2107 hbg2107; have H2113 := Aside0.mk hhg2107; have G2109 : w.heap.size ≤ g2107 := Nat.le_trans B2104.out.size (Nat.le_of_eq hgg2107.symm); have G2110 : w2103.heap.size ≤ g2107 := Nat.le_of_eq hgg2107.symm; have B2111 := Aside0.mk (below_step B2104.out hbg2107); have B2112 := Aside0.mk (hbg2107); clear hgg2107 hhg2107 hbg2107 B2104) | ((with_reducible refine gate_store (t := 42) (p := _) rfl ?_); refine storeN_event (T := 42) rfl rfl rfl rfl rfl (storeVar_blk H2113.out 42 0 [.int .u32 0, .int .u32 4294967295, .slice (some ⟨gr, 0, none⟩) 19996 c_gr] (by kernel_rfl) rfl (by simp)) ?_; have H2115 := Aside0.mk (show (World.setCells w2108 g2107 0 [.int .u32 0, .int .u32 4294967295, .slice (some ⟨gr, 0, none⟩) 19996 c_gr]).heap[g2107]? = some (.cells #[.int .u32 0, .int .u32 4294967295, .slice (some ⟨gr, 0, none⟩) 19996 c_gr] 42 (0, 0)) from blk_setCells [] [.int .u32 0, .int .u32 4294967295, .slice (some ⟨gr, 0, none⟩) 19996 c_gr] [.int .u32 0, .int .u32 0, .slice none 0 0] [] w2108 rfl H2113.out); have B2116 := Aside0.mk (below_setCells G2109 [.int .u32 0, .int .u32 4294967295, .slice (some ⟨gr, 0, none⟩) 19996 c_gr] 0 w2108 B2111.out); have B2117 := Aside0.mk (below_setCells G2110 [.int .u32 0, .int .u32 4294967295, .slice (some ⟨gr, 0, none⟩) 19996 c_gr] 0 w2108 B2112.out); clear H2113 B2111 B2112; generalize World.setCells w2108 g2107 0 [.int .u32 0, .int .u32 4294967295, .slice (some ⟨gr, 0, none⟩) 19996 c_gr] = w2114 at H2115 B2116 B2117 ⊢) | ((with_reducible refine gate_dst (N := 117) rfl ?_); refine loadG_event (T := 42) (by rfl) rfl rfl (run_loadVar_row _ _ _ _ _ (0, 0) _ H2115.out Try.underlying42 rfl (by kernel_rfl)) ?_))
      refine (Hen.out w2114 (some ⟨gr, 0, none⟩) c_gr (Kd.C_below R2105.out B2117.out) L2106.out).mono ?_
      rintro e w2118 ⟨v0_, rfl, hR_, hb_⟩
      have B2119 := Aside0.mk (below_step B2116.out hb_)
      have B2120 := Aside0.mk (below_step B2117.out hb_)
      have H2121 := Aside0.mk (blk_below H2115.out hb_)
      clear hb_ B2116 B2117 H2115
      obtain ⟨re, c_re, rfl, hle_, hC_⟩ := Kd.R_reads hR_
      clear hle_ hC_ hR_
      obtain ⟨n20, hn20⟩ : ∃ x : Nat, x = ne.length := ⟨_, rfl⟩
      rw [← hn20]
      have l20a : ((n20 : Int) = 20000) = True := eq_true (by have := Hhne.out; omega)
      have l20b : (n20 = 20000) = True := eq_true (by have := Hhne.out; omega)
      have l20c : ((n20 : Int) == 20000) = true := by rw [beq_iff_eq]; have := Hhne.out; omega
      clear hn20
      go_wp2_with fail
      have B2124 := Aside0.mk (below_drew B2119.out)
      clear B2119
      refine start_ (n := 8) (S := fun w' => True) (ds := [6, 7]) #[false, false, false, false, false, false, false, false] (by kernel_rfl) rfl rfl trivial (fun hHeld => ?_)
      generalize World.drew w2118 = w2123 at B2124 hHeld ⊢
      refine join_ (σ := Nat × Nat × Nat × Nat) 6 #[true, true, false, false, false, false, false, false] (fun s_ => [(122, .slice (some ⟨s_.2.2.1, 0, none⟩) 3 s_.1), (123, .slice (some ⟨s_.2.2.2, 0, none⟩) 2001 s_.2.1)]) (fun s_ w' => (Below w.heap.size w w') ∧ (Kd.C (Kd.int .i64) w' (some ⟨s_.2.2.1, 0, none⟩) 3 (List.replicate 3 (0 : Int))) ∧ (3 ≤ s_.1) ∧ (Kd.C Kd.bool w' (some ⟨s_.2.2.2, 0, none⟩) 2001 (List.replicate 2001 false)) ∧ (2001 ≤ s_.2.1)) ?_ ?_
      rotate_left
      · intro hCont
        refine two_ (i := 0) (j := 1) (Ni := some 122) (Nj := some 123) #[true, false, false, false, false, false, false, false] #[false, true, false, false, false, false, false, false] rfl rfl rfl rfl (by kernel_rfl) (by decide) (by decide) (fun K hK => ?_) (fun K hK => ?_)
        · skip
          refine Kd.R_make_step (Kd.int .i64) (w0 := w2123) _ 3 (by rfl) (N := 122) rfl 28 _ _ rfl 3 rfl rfl Try.underlying28 (.int .i64 0) 8 (by kernel_rfl) rfl (by decide) (by decide) (0 : Int) (ok := fun _ => True) (okp := fun _ => True) rfl (fun _ h => h) trivial (by decide) (by decide) (Below.refl _ _) (Nat.le_refl _) ?_
          intro v_ w2125 hO_ hb_ hg_ _
          clear hg_
          obtain ⟨gak2122, c_gak2122, rfl, hle_, hC_⟩ := row_formK (n := 3) hO_ List.length_replicate (by decide)
          have B2126 := Aside0.mk (below_step B2124.out hb_)
          have R2127 := Aside0.mk (show Kd.C (Kd.int .i64) w2125 (some ⟨gak2122, 0, none⟩) 3 (List.replicate 3 (0 : Int)) from hC_)
          have L2128 := Aside0.mk hle_
          clear hO_ hb_ hle_ hC_ B2124
          refine hK.out _ _ trivial (fun hHeld => ?_)
          clear hK K
          refine norm_ (a' := ?_) ?_ ?_
          rotate_left
          · show Act.put _ (some 122) _ = _
            simp only [Act.put, List.setIfInBounds_toArray, List.set_cons_zero, List.set_cons_succ, i64_w, i32_w]
            rfl
          refine one_ (i := 1) (N := some 123) #[true, true, false, false, false, false, false, false] rfl rfl (by kernel_rfl) (by decide) (fun K hK => ?_)
          refine Kd.R_make_step Kd.bool (w0 := w2125) _ 4 (by rfl) (N := 123) rfl 29 _ _ rfl 2001 rfl rfl Try.underlying29 (.bool false) 1 (by kernel_rfl) rfl (by decide) (by decide) false (ok := fun _ => True) (okp := fun _ => True) rfl (fun _ h => h) trivial (by decide) (by decide) (Below.refl _ _) (Nat.le_refl _) ?_
          intro v_ w2129 hO_ hb_ hg_ _
          clear hg_
          obtain ⟨gbk2122, c_gbk2122, rfl, hle_, hC_⟩ := row_formK (n := 2001) hO_ List.length_replicate (by decide)
          have B2130 := Aside0.mk (below_step B2126.out hb_)
          have B2131 := Aside0.mk (hb_)
          have R2132 := Aside0.mk (show Kd.C Kd.bool w2129 (some ⟨gbk2122, 0, none⟩) 2001 (List.replicate 2001 false) from hC_)
          have L2133 := Aside0.mk hle_
          clear hO_ hb_ hle_ hC_ B2126
          refine hK.out _ _ trivial (fun hHeld => ?_)
          clear hK K
          refine norm_ (a' := ?_) ?_ ?_
          rotate_left
          · show Act.put _ (some 123) _ = _
            simp only [Act.put, List.setIfInBounds_toArray, List.set_cons_zero, List.set_cons_succ, i64_w, i32_w]
            rfl
          exact norm_ (by simp only [putAll, Act.put, List.setIfInBounds_toArray, List.set_cons_zero, List.set_cons_succ]) (hCont (c_gak2122, c_gbk2122, gak2122, gbk2122) _ ⟨B2130.out, (Kd.C_below R2127.out B2131.out), L2128.out, (Kd.C_below R2132.out (Below.refl _ _)), L2133.out⟩)
        · skip
          refine Kd.R_make_step Kd.bool (w0 := w2123) _ 4 (by rfl) (N := 123) rfl 29 _ _ rfl 2001 rfl rfl Try.underlying29 (.bool false) 1 (by kernel_rfl) rfl (by decide) (by decide) false (ok := fun _ => True) (okp := fun _ => True) rfl (fun _ h => h) trivial (by decide) (by decide) (Below.refl _ _) (Nat.le_refl _) ?_
          intro v_ w2125 hO_ hb_ hg_ _
          clear hg_
          obtain ⟨gbk2122, c_gbk2122, rfl, hle_, hC_⟩ := row_formK (n := 2001) hO_ List.length_replicate (by decide)
          have B2126 := Aside0.mk (below_step B2124.out hb_)
          have R2127 := Aside0.mk (show Kd.C Kd.bool w2125 (some ⟨gbk2122, 0, none⟩) 2001 (List.replicate 2001 false) from hC_)
          have L2128 := Aside0.mk hle_
          clear hO_ hb_ hle_ hC_ B2124
          refine hK.out _ _ trivial (fun hHeld => ?_)
          clear hK K
          refine norm_ (a' := ?_) ?_ ?_
          rotate_left
          · show Act.put _ (some 123) _ = _
            simp only [Act.put, List.setIfInBounds_toArray, List.set_cons_zero, List.set_cons_succ, i64_w, i32_w]
            rfl
          refine one_ (i := 0) (N := some 122) #[true, true, false, false, false, false, false, false] rfl rfl (by kernel_rfl) (by decide) (fun K hK => ?_)
          refine Kd.R_make_step (Kd.int .i64) (w0 := w2125) _ 3 (by rfl) (N := 122) rfl 28 _ _ rfl 3 rfl rfl Try.underlying28 (.int .i64 0) 8 (by kernel_rfl) rfl (by decide) (by decide) (0 : Int) (ok := fun _ => True) (okp := fun _ => True) rfl (fun _ h => h) trivial (by decide) (by decide) (Below.refl _ _) (Nat.le_refl _) ?_
          intro v_ w2129 hO_ hb_ hg_ _
          clear hg_
          obtain ⟨gak2122, c_gak2122, rfl, hle_, hC_⟩ := row_formK (n := 3) hO_ List.length_replicate (by decide)
          have B2130 := Aside0.mk (below_step B2126.out hb_)
          have B2131 := Aside0.mk (hb_)
          have R2132 := Aside0.mk (show Kd.C (Kd.int .i64) w2129 (some ⟨gak2122, 0, none⟩) 3 (List.replicate 3 (0 : Int)) from hC_)
          have L2133 := Aside0.mk hle_
          clear hO_ hb_ hle_ hC_ B2126
          refine hK.out _ _ trivial (fun hHeld => ?_)
          clear hK K
          refine norm_ (a' := ?_) ?_ ?_
          rotate_left
          · show Act.put _ (some 122) _ = _
            simp only [Act.put, List.setIfInBounds_toArray, List.set_cons_zero, List.set_cons_succ, i64_w, i32_w]
            rfl
          exact norm_ (by simp only [putAll, Act.put, List.setIfInBounds_toArray, List.set_cons_zero, List.set_cons_succ]) (hCont (c_gak2122, c_gbk2122, gak2122, gbk2122) _ ⟨B2130.out, (Kd.C_below R2132.out (Below.refl _ _)), L2133.out, (Kd.C_below R2127.out B2131.out), L2128.out⟩)
      rintro ⟨c_gak2122, c_gbk2122, gak2122, gbk2122⟩ wj2124 ⟨h0_, h1_, h2_, h3_, h4_⟩
      clear hHeld
      clear B2124
      have B2165 := Aside0.mk h0_
      have R2166 := Aside0.mk h1_
      have L2167 := Aside0.mk h2_
      have R2168 := Aside0.mk h3_
      have L2169 := Aside0.mk h4_
      clear h0_ h1_ h2_ h3_ h4_
      have hHeld := trivial
      refine norm_ (a' := ?_) ?_ ?_
      rotate_left
      · simp only [putAll, Act.put, List.setIfInBounds_toArray, List.set_cons_zero, List.set_cons_succ]
        rfl
      refine one_ (i := 2) (N := some 124) #[true, true, true, false, false, false, false, false] rfl rfl (by kernel_rfl) (by decide) (fun K hK => ?_)
      refine goes_ Try.func24 (by kernel_rfl) rfl #[.slice (some ⟨gak2122, 0, none⟩) 3 c_gak2122, .slice (some ⟨gbk2122, 0, none⟩) 2001 c_gbk2122] (by rfl) rfl rfl (by simp only [List.map_toArray, List.map_cons, List.map_nil]; rfl) ?_
      with_reducible refine (Hra.out wj2124 (some ⟨gak2122, 0, none⟩) c_gak2122 (some ⟨gbk2122, 0, none⟩) c_gbk2122 (Kd.C_below R2166.out (Below.refl _ _)) L2167.out (Kd.C_below R2168.out (Below.refl _ _)) L2169.out).mono ?_
      rintro e_ w2170 ⟨vr_, rfl, hR_, hb_⟩
      refine ⟨_, rfl, ?_⟩
      have B2171 := Aside0.mk (below_step B2165.out hb_)
      have B2172 := Aside0.mk (hb_)
      clear hb_ B2165
      obtain ⟨rxk2122, c_rxk2122, rfl, hle_, hC_⟩ := Kd.R_reads hR_
      have R2173 := Aside0.mk hC_
      have L2174 := Aside0.mk hle_
      clear hC_ hle_ hR_
      refine hK.out _ _ trivial (fun hHeld => ?_)
      clear hK K
      refine norm_ (a' := ?_) ?_ ?_
      rotate_left
      · show Act.put _ (some 124) _ = _
        simp only [Act.put, List.setIfInBounds_toArray, List.set_cons_zero, List.set_cons_succ, i64_w, i32_w]
        rfl
      refine pure_ (i := 3) (N := some 121) (v := ?_) (a' := ?_) #[true, true, true, true, false, false, false, false] rfl rfl (by kernel_rfl) (fun _ _ _ h => h) (Or.inl ⟨by rfl, ?_⟩) ?_ ?_
      rotate_left
      · intro w'
        go_simp
        with_reducible rfl
      rotate_left
      · simp only [Act.put, List.setIfInBounds_toArray, List.set_cons_zero, List.set_cons_succ, i64_w, i32_w]
        rfl
      refine pure_ (i := 4) (N := some 125) (v := ?_) (a' := ?_) #[true, true, true, true, true, false, false, false] rfl rfl (by kernel_rfl) (fun _ _ _ h => h) (Or.inl ⟨by rfl, ?_⟩) ?_ ?_
      rotate_left
      · intro w'
        go_simp
        with_reducible rfl
      rotate_left
      · simp only [Act.put, List.setIfInBounds_toArray, List.set_cons_zero, List.set_cons_succ, i64_w, i32_w]
        rfl
      refine pure_ (i := 5) (N := some 126) (v := ?_) (a' := ?_) #[true, true, true, true, true, true, false, false] rfl rfl (by kernel_rfl) (fun _ _ _ h => h) (Or.inl ⟨by rfl, ?_⟩) ?_ ?_
      rotate_left
      · intro w'
        go_simp
        with_reducible rfl
      rotate_left
      · simp only [Act.put, List.setIfInBounds_toArray, List.set_cons_zero, List.set_cons_succ, i64_w, i32_w]
        rfl
      refine pure_ (i := 6) (N := some 26) (v := ?_) (a' := ?_) #[true, true, true, true, true, true, true, false] rfl rfl (by kernel_rfl) (fun _ _ _ h => h) (Or.inl ⟨by rfl, ?_⟩) ?_ ?_
      rotate_left
      · intro w'
        go_simp
        with_reducible rfl
      rotate_left
      · simp only [Act.put, List.setIfInBounds_toArray, List.set_cons_zero, List.set_cons_succ, i64_w, i32_w]
        rfl
      refine pure_ (i := 7) (N := some 27) (v := ?_) (a' := ?_) #[true, true, true, true, true, true, true, true] rfl rfl (by kernel_rfl) (fun _ _ _ h => h) (Or.inl ⟨by rfl, ?_⟩) ?_ ?_
      rotate_left
      · intro w'
        go_simp
        with_reducible rfl
      rotate_left
      · simp only [Act.put, List.setIfInBounds_toArray, List.set_cons_zero, List.set_cons_succ, i64_w, i32_w]
        rfl
      refine done_ (by kernel_rfl) ?_
      go_wp2_with fail
      have B2177 := Aside0.mk (below_drew B2171.out)
      clear B2171
      refine start_ (n := 8) (S := fun w' => True) (ds := [6, 7]) #[false, false, false, false, false, false, false, false] (by kernel_rfl) rfl rfl trivial (fun hHeld => ?_)
      generalize World.drew w2170 = w2176 at B2177 hHeld ⊢
      refine join_ (σ := Nat × Nat × Nat × Nat) 6 #[true, true, false, false, false, false, false, false] (fun s_ => [(128, .slice (some ⟨s_.2.2.1, 0, none⟩) 3 s_.1), (129, .slice (some ⟨s_.2.2.2, 0, none⟩) 2 s_.2.1)]) (fun s_ w' => (Below w.heap.size w w') ∧ (Kd.C (Kd.int .i64) w' (some ⟨s_.2.2.1, 0, none⟩) 3 (List.replicate 3 (0 : Int))) ∧ (3 ≤ s_.1) ∧ (Kd.C Kd.bool w' (some ⟨s_.2.2.2, 0, none⟩) 2 (List.replicate 2 false)) ∧ (2 ≤ s_.2.1)) ?_ ?_
      rotate_left
      · intro hCont
        refine two_ (i := 0) (j := 1) (Ni := some 128) (Nj := some 129) #[true, false, false, false, false, false, false, false] #[false, true, false, false, false, false, false, false] rfl rfl rfl rfl (by kernel_rfl) (by decide) (by decide) (fun K hK => ?_) (fun K hK => ?_)
        · skip
          refine Kd.R_make_step (Kd.int .i64) (w0 := w2176) _ 3 (by rfl) (N := 128) rfl 28 _ _ rfl 3 rfl rfl Try.underlying28 (.int .i64 0) 8 (by kernel_rfl) rfl (by decide) (by decide) (0 : Int) (ok := fun _ => True) (okp := fun _ => True) rfl (fun _ h => h) trivial (by decide) (by decide) (Below.refl _ _) (Nat.le_refl _) ?_
          intro v_ w2178 hO_ hb_ hg_ _
          clear hg_
          obtain ⟨gak2175, c_gak2175, rfl, hle_, hC_⟩ := row_formK (n := 3) hO_ List.length_replicate (by decide)
          have B2179 := Aside0.mk (below_step B2177.out hb_)
          have R2180 := Aside0.mk (show Kd.C (Kd.int .i64) w2178 (some ⟨gak2175, 0, none⟩) 3 (List.replicate 3 (0 : Int)) from hC_)
          have L2181 := Aside0.mk hle_
          clear hO_ hb_ hle_ hC_ B2177
          refine hK.out _ _ trivial (fun hHeld => ?_)
          clear hK K
          refine norm_ (a' := ?_) ?_ ?_
          rotate_left
          · show Act.put _ (some 128) _ = _
            simp only [Act.put, List.setIfInBounds_toArray, List.set_cons_zero, List.set_cons_succ, i64_w, i32_w]
            rfl
          refine one_ (i := 1) (N := some 129) #[true, true, false, false, false, false, false, false] rfl rfl (by kernel_rfl) (by decide) (fun K hK => ?_)
          refine Kd.R_make_step Kd.bool (w0 := w2178) _ 4 (by rfl) (N := 129) rfl 29 _ _ rfl 2 rfl rfl Try.underlying29 (.bool false) 1 (by kernel_rfl) rfl (by decide) (by decide) false (ok := fun _ => True) (okp := fun _ => True) rfl (fun _ h => h) trivial (by decide) (by decide) (Below.refl _ _) (Nat.le_refl _) ?_
          intro v_ w2182 hO_ hb_ hg_ _
          clear hg_
          obtain ⟨gbk2175, c_gbk2175, rfl, hle_, hC_⟩ := row_formK (n := 2) hO_ List.length_replicate (by decide)
          have B2183 := Aside0.mk (below_step B2179.out hb_)
          have B2184 := Aside0.mk (hb_)
          have R2185 := Aside0.mk (show Kd.C Kd.bool w2182 (some ⟨gbk2175, 0, none⟩) 2 (List.replicate 2 false) from hC_)
          have L2186 := Aside0.mk hle_
          clear hO_ hb_ hle_ hC_ B2179
          refine hK.out _ _ trivial (fun hHeld => ?_)
          clear hK K
          refine norm_ (a' := ?_) ?_ ?_
          rotate_left
          · show Act.put _ (some 129) _ = _
            simp only [Act.put, List.setIfInBounds_toArray, List.set_cons_zero, List.set_cons_succ, i64_w, i32_w]
            rfl
          exact norm_ (by simp only [putAll, Act.put, List.setIfInBounds_toArray, List.set_cons_zero, List.set_cons_succ]) (hCont (c_gak2175, c_gbk2175, gak2175, gbk2175) _ ⟨B2183.out, (Kd.C_below R2180.out B2184.out), L2181.out, (Kd.C_below R2185.out (Below.refl _ _)), L2186.out⟩)
        · skip
          refine Kd.R_make_step Kd.bool (w0 := w2176) _ 4 (by rfl) (N := 129) rfl 29 _ _ rfl 2 rfl rfl Try.underlying29 (.bool false) 1 (by kernel_rfl) rfl (by decide) (by decide) false (ok := fun _ => True) (okp := fun _ => True) rfl (fun _ h => h) trivial (by decide) (by decide) (Below.refl _ _) (Nat.le_refl _) ?_
          intro v_ w2178 hO_ hb_ hg_ _
          clear hg_
          obtain ⟨gbk2175, c_gbk2175, rfl, hle_, hC_⟩ := row_formK (n := 2) hO_ List.length_replicate (by decide)
          have B2179 := Aside0.mk (below_step B2177.out hb_)
          have R2180 := Aside0.mk (show Kd.C Kd.bool w2178 (some ⟨gbk2175, 0, none⟩) 2 (List.replicate 2 false) from hC_)
          have L2181 := Aside0.mk hle_
          clear hO_ hb_ hle_ hC_ B2177
          refine hK.out _ _ trivial (fun hHeld => ?_)
          clear hK K
          refine norm_ (a' := ?_) ?_ ?_
          rotate_left
          · show Act.put _ (some 129) _ = _
            simp only [Act.put, List.setIfInBounds_toArray, List.set_cons_zero, List.set_cons_succ, i64_w, i32_w]
            rfl
          refine one_ (i := 0) (N := some 128) #[true, true, false, false, false, false, false, false] rfl rfl (by kernel_rfl) (by decide) (fun K hK => ?_)
          refine Kd.R_make_step (Kd.int .i64) (w0 := w2178) _ 3 (by rfl) (N := 128) rfl 28 _ _ rfl 3 rfl rfl Try.underlying28 (.int .i64 0) 8 (by kernel_rfl) rfl (by decide) (by decide) (0 : Int) (ok := fun _ => True) (okp := fun _ => True) rfl (fun _ h => h) trivial (by decide) (by decide) (Below.refl _ _) (Nat.le_refl _) ?_
          intro v_ w2182 hO_ hb_ hg_ _
          clear hg_
          obtain ⟨gak2175, c_gak2175, rfl, hle_, hC_⟩ := row_formK (n := 3) hO_ List.length_replicate (by decide)
          have B2183 := Aside0.mk (below_step B2179.out hb_)
          have B2184 := Aside0.mk (hb_)
          have R2185 := Aside0.mk (show Kd.C (Kd.int .i64) w2182 (some ⟨gak2175, 0, none⟩) 3 (List.replicate 3 (0 : Int)) from hC_)
          have L2186 := Aside0.mk hle_
          clear hO_ hb_ hle_ hC_ B2179
          refine hK.out _ _ trivial (fun hHeld => ?_)
          clear hK K
          refine norm_ (a' := ?_) ?_ ?_
          rotate_left
          · show Act.put _ (some 128) _ = _
            simp only [Act.put, List.setIfInBounds_toArray, List.set_cons_zero, List.set_cons_succ, i64_w, i32_w]
            rfl
          exact norm_ (by simp only [putAll, Act.put, List.setIfInBounds_toArray, List.set_cons_zero, List.set_cons_succ]) (hCont (c_gak2175, c_gbk2175, gak2175, gbk2175) _ ⟨B2183.out, (Kd.C_below R2185.out (Below.refl _ _)), L2186.out, (Kd.C_below R2180.out B2184.out), L2181.out⟩)
      rintro ⟨c_gak2175, c_gbk2175, gak2175, gbk2175⟩ wj2177 ⟨h0_, h1_, h2_, h3_, h4_⟩
      clear hHeld
      clear B2177
      have B2218 := Aside0.mk h0_
      have R2219 := Aside0.mk h1_
      have L2220 := Aside0.mk h2_
      have R2221 := Aside0.mk h3_
      have L2222 := Aside0.mk h4_
      clear h0_ h1_ h2_ h3_ h4_
      have hHeld := trivial
      refine norm_ (a' := ?_) ?_ ?_
      rotate_left
      · simp only [putAll, Act.put, List.setIfInBounds_toArray, List.set_cons_zero, List.set_cons_succ]
        rfl
      refine one_ (i := 2) (N := some 130) #[true, true, true, false, false, false, false, false] rfl rfl (by kernel_rfl) (by decide) (fun K hK => ?_)
      refine goes_ Try.func24 (by kernel_rfl) rfl #[.slice (some ⟨gak2175, 0, none⟩) 3 c_gak2175, .slice (some ⟨gbk2175, 0, none⟩) 2 c_gbk2175] (by rfl) rfl rfl (by simp only [List.map_toArray, List.map_cons, List.map_nil]; rfl) ?_
      with_reducible refine (Hrb.out wj2177 (some ⟨gak2175, 0, none⟩) c_gak2175 (some ⟨gbk2175, 0, none⟩) c_gbk2175 (Kd.C_below R2219.out (Below.refl _ _)) L2220.out (Kd.C_below R2221.out (Below.refl _ _)) L2222.out).mono ?_
      rintro e_ w2223 ⟨vr_, rfl, hR_, hb_⟩
      refine ⟨_, rfl, ?_⟩
      have B2224 := Aside0.mk (below_step B2218.out hb_)
      have B2225 := Aside0.mk (hb_)
      clear hb_ B2218
      obtain ⟨rxk2175, c_rxk2175, rfl, hle_, hC_⟩ := Kd.R_reads hR_
      have R2226 := Aside0.mk hC_
      have L2227 := Aside0.mk hle_
      clear hC_ hle_ hR_
      refine hK.out _ _ trivial (fun hHeld => ?_)
      clear hK K
      refine norm_ (a' := ?_) ?_ ?_
      rotate_left
      · show Act.put _ (some 130) _ = _
        simp only [Act.put, List.setIfInBounds_toArray, List.set_cons_zero, List.set_cons_succ, i64_w, i32_w]
        rfl
      refine pure_ (i := 3) (N := some 127) (v := ?_) (a' := ?_) #[true, true, true, true, false, false, false, false] rfl rfl (by kernel_rfl) (fun _ _ _ h => h) (Or.inl ⟨by rfl, ?_⟩) ?_ ?_
      rotate_left
      · intro w'
        go_simp
        with_reducible rfl
      rotate_left
      · simp only [Act.put, List.setIfInBounds_toArray, List.set_cons_zero, List.set_cons_succ, i64_w, i32_w]
        rfl
      refine pure_ (i := 4) (N := some 131) (v := ?_) (a' := ?_) #[true, true, true, true, true, false, false, false] rfl rfl (by kernel_rfl) (fun _ _ _ h => h) (Or.inl ⟨by rfl, ?_⟩) ?_ ?_
      rotate_left
      · intro w'
        go_simp
        with_reducible rfl
      rotate_left
      · simp only [Act.put, List.setIfInBounds_toArray, List.set_cons_zero, List.set_cons_succ, i64_w, i32_w]
        rfl
      refine pure_ (i := 5) (N := some 132) (v := ?_) (a' := ?_) #[true, true, true, true, true, true, false, false] rfl rfl (by kernel_rfl) (fun _ _ _ h => h) (Or.inl ⟨by rfl, ?_⟩) ?_ ?_
      rotate_left
      · intro w'
        go_simp
        with_reducible rfl
      rotate_left
      · simp only [Act.put, List.setIfInBounds_toArray, List.set_cons_zero, List.set_cons_succ, i64_w, i32_w]
        rfl
      refine pure_ (i := 6) (N := some 28) (v := ?_) (a' := ?_) #[true, true, true, true, true, true, true, false] rfl rfl (by kernel_rfl) (fun _ _ _ h => h) (Or.inl ⟨by rfl, ?_⟩) ?_ ?_
      rotate_left
      · intro w'
        go_simp
        with_reducible rfl
      rotate_left
      · simp only [Act.put, List.setIfInBounds_toArray, List.set_cons_zero, List.set_cons_succ, i64_w, i32_w]
        rfl
      refine pure_ (i := 7) (N := some 29) (v := ?_) (a' := ?_) #[true, true, true, true, true, true, true, true] rfl rfl (by kernel_rfl) (fun _ _ _ h => h) (Or.inl ⟨by rfl, ?_⟩) ?_ ?_
      rotate_left
      · intro w'
        go_simp
        with_reducible rfl
      rotate_left
      · simp only [Act.put, List.setIfInBounds_toArray, List.set_cons_zero, List.set_cons_succ, i64_w, i32_w]
        rfl
      refine done_ (by kernel_rfl) ?_
      go_wp2_with (first | ((with_reducible refine gate_dst (N := 134) rfl ?_); refine lit_event ?hg (N := 134) ?hd (cs := #[.int .i64 4096]) (t := 3) (n := 1) ?hr ?_; (case hd => rfl); (case hg => rfl); (case hr => first | (go_simp; done) | (go_simp; rfl)); intro g2228 hgg2228 w2229 hhg2228 hbg2228; have H2232 := Aside0.mk hhg2228; have G2230 : w.heap.size ≤ g2228 := Nat.le_trans B2224.out.size (Nat.le_of_eq hgg2228.symm); have B2231 := Aside0.mk (below_step B2224.out hbg2228); clear hgg2228 hhg2228 hbg2228 B2224) | ((with_reducible refine gate_dst (N := 135) rfl ?_); refine Kd.R_make Kd.bool (w0 := w2229) _ 4 rfl (N := 135) rfl 29 _ _ rfl 1 rfl rfl Try.underlying29 (.bool false) 1 (by kernel_rfl) rfl (by decide) (by decide) false (ok := fun _ => True) (okp := fun _ => True) rfl (fun _ h => h) trivial (by decide) (by decide) (Below.refl _ _) (Nat.le_refl _) ?_; intro v_ w2233 hO_ hb_ hg_ _; clear hg_; obtain ⟨gt, c_gt, rfl, hle_, hC_⟩ := row_formK (n := 1) hO_ List.length_replicate (by decide); have B2234 := Aside0.mk (below_step B2231.out hb_); have H2235 := Aside0.mk (blk_below H2232.out hb_); have R2236 := Aside0.mk (show Kd.C Kd.bool w2233 (some ⟨gt, 0, none⟩) 1 (List.replicate 1 false) from hC_); have L2237 := Aside0.mk hle_; clear hO_ hb_ hle_ hC_ B2231 H2232))
      refine (Hrc.out w2233 (some ⟨g2228, 0, none⟩) 1 (some ⟨gt, 0, none⟩) c_gt (ints_at (l := [4096]) H2235.out (by decide)) (Nat.le_refl 1) (Kd.C_below R2236.out (Below.refl _ _)) L2237.out).mono ?_
      rintro e w2238 ⟨v0_, rfl, hR_, hb_⟩
      have B2239 := Aside0.mk (below_step B2234.out hb_)
      have B2240 := Aside0.mk (hb_)
      have H2241 := Aside0.mk (blk_below H2235.out hb_)
      clear hb_ B2234 H2235
      obtain ⟨rq2242, cq2242, rfl, hle_, hC_⟩ := Kd.R_reads hR_
      clear hle_ hC_ hR_
      rw [show ([] : List Int).length = 0 from rfl]
      go_wp2_with fail
      refine (Hrd.out w2238).mono ?_
      rintro e w2243 ⟨v0_, rfl, hR_, hb_⟩
      have B2244 := Aside0.mk (below_step B2239.out hb_)
      clear hb_ B2239
      obtain ⟨rz, c_rz, rfl, hle_, hC_⟩ := Kd.R_reads hR_
      rw [show (List.replicate 4 (0 : Int)).length = 4 from List.length_replicate] at hC_ hle_ ⊢
      have Rrz := Aside0.mk hC_
      have Lrz := Aside0.mk hle_
      clear hle_ hC_ hR_
      go_wp2_with fail
      refine (Hpy.out w2243).mono ?_
      rintro e w2245 ⟨v0_, rfl, hR_, hb_⟩
      have B2246 := Aside0.mk (below_step B2244.out hb_)
      have B2247 := Aside0.mk (hb_)
      clear hb_ B2244
      obtain ⟨ry, c_ry, rfl, hle_, hC_⟩ := Kd.R_reads hR_
      rw [show ([0, 255, 255, 255] : List Int).length = 4 from rfl] at hC_ hle_ ⊢
      have Rry := Aside0.mk hC_
      have Lry := Aside0.mk hle_
      clear hle_ hC_ hR_
      obtain ⟨sz, hsz⟩ : ∃ s_, s_ = strOfNums (List.replicate 4 (0 : Int)) := ⟨_, rfl⟩
      have HSZ := Aside0.mk hsz
      clear hsz
      obtain ⟨sy, hsy⟩ : ∃ s_, s_ = strOfNums ([0, 255, 255, 255] : List Int) := ⟨_, rfl⟩
      have HSY := Aside0.mk hsy
      clear hsy
      go_wp2_with (first | ((with_reducible refine gate_dst (N := 34) rfl ?_); refine box_event ?hg (N := 34) ?hd (cs := #[.int .u32 0, .int .u32 0, .slice none 0 0]) (t := 42) ?hr ?_; (case hd => rfl); (case hg => rfl); (case hr => first | (go_simp; done) | (go_simp; rfl)); intro g2248 hgg2248 w2249 hhg2248 hbg2248; have H2256 := Aside0.mk hhg2248; have G2250 : w.heap.size ≤ g2248 := Nat.le_trans B2246.out.size (Nat.le_of_eq hgg2248.symm); have G2251 : w2243.heap.size ≤ g2248 := Nat.le_trans B2247.out.size (Nat.le_of_eq hgg2248.symm); have G2252 : w2245.heap.size ≤ g2248 := Nat.le_of_eq hgg2248.symm; have B2253 := Aside0.mk (below_step B2246.out hbg2248); have B2254 := Aside0.mk (below_step B2247.out hbg2248); have B2255 := Aside0.mk (hbg2248); clear hgg2248 hhg2248 hbg2248 B2246 B2247) | ((with_reducible refine gate_store (t := 42) (p := _) rfl ?_); refine storeN_event (T := 42) rfl rfl rfl rfl rfl (storeVar_blk H2256.out 42 0 [.int .u32 0, .int .u32 4294967295, .slice ry 4 c_ry] (by kernel_rfl) rfl (by simp)) ?_; have H2258 := Aside0.mk (show (World.setCells w2249 g2248 0 [.int .u32 0, .int .u32 4294967295, .slice ry 4 c_ry]).heap[g2248]? = some (.cells #[.int .u32 0, .int .u32 4294967295, .slice ry 4 c_ry] 42 (0, 0)) from blk_setCells [] [.int .u32 0, .int .u32 4294967295, .slice ry 4 c_ry] [.int .u32 0, .int .u32 0, .slice none 0 0] [] w2249 rfl H2256.out); have B2259 := Aside0.mk (below_setCells G2250 [.int .u32 0, .int .u32 4294967295, .slice ry 4 c_ry] 0 w2249 B2253.out); have B2260 := Aside0.mk (below_setCells G2251 [.int .u32 0, .int .u32 4294967295, .slice ry 4 c_ry] 0 w2249 B2254.out); have B2261 := Aside0.mk (below_setCells G2252 [.int .u32 0, .int .u32 4294967295, .slice ry 4 c_ry] 0 w2249 B2255.out); clear H2256 B2253 B2254 B2255; generalize World.setCells w2249 g2248 0 [.int .u32 0, .int .u32 4294967295, .slice ry 4 c_ry] = w2257 at H2258 B2259 B2260 B2261 ⊢))
      have H2263 := Aside0.mk (blk_drew H2258.out)
      have B2264 := Aside0.mk (below_drew B2259.out)
      have B2265 := Aside0.mk (below_drew B2260.out)
      have B2266 := Aside0.mk (below_drew B2261.out)
      clear H2258 B2259 B2260 B2261
      refine start_ (n := 86) (S := fun w' => (convert 30 9 (.slice rz 4 c_rz)).run Try.prog w' = .ok (.string sz) w' ∧ w'.cell? ⟨g2248, 0, none⟩ = some (.int .u32 0) ∧ w'.cell? ⟨g2248, 1, none⟩ = some (.int .u32 4294967295) ∧ w'.cell? ⟨g2248, 2, none⟩ = some (.slice ry 4 c_ry) ∧ (convert 30 9 (.slice ry 4 c_ry)).run Try.prog w' = .ok (.string sy) w') (ds := [85]) #[false, false, false, false, false, false, false, false, false, false, false, false, false, false, false, false, false, false, false, false, false, false, false, false, false, false, false, false, false, false, false, false, false, false, false, false, false, false, false, false, false, false, false, false, false, false, false, false, false, false, false, false, false, false, false, false, false, false, false, false, false, false, false, false, false, false, false, false, false, false, false, false, false, false, false, false, false, false, false, false, false, false, false, false, false, false] (by kernel_rfl) rfl rfl ⟨(by rw [HSZ.out]; exact conv_of (c := c_rz) (Kd.C_below Rrz.out B2265.out)), ((blk_cell (i := 0) H2263.out).trans rfl), ((blk_cell (i := 1) H2263.out).trans rfl), ((blk_cell (i := 2) H2263.out).trans rfl), (by rw [HSY.out]; exact conv_of (c := c_ry) (Kd.C_below Rry.out B2266.out))⟩ (fun hHeld => ?_)
      refine with_tabW enT.tab25 enT.bits25 (fun HT_ HW_ => ?_)
      generalize World.drew w2257 = w2262 at H2263 B2264 B2265 B2266 hHeld ⊢
      refine pure_ (i := 0) (N := some 148) (v := ?_) (a' := ?_) #[true, false, false, false, false, false, false, false, false, false, false, false, false, false, false, false, false, false, false, false, false, false, false, false, false, false, false, false, false, false, false, false, false, false, false, false, false, false, false, false, false, false, false, false, false, false, false, false, false, false, false, false, false, false, false, false, false, false, false, false, false, false, false, false, false, false, false, false, false, false, false, false, false, false, false, false, false, false, false, false, false, false, false, false, false, false] rfl rfl (any_of HT_.out (by kernel_rfl)) (fun _ _ _ h => h) (Or.inl ⟨by rfl, ?_⟩) ?_ ?_
      rotate_left
      · intro w'
        go_simp
        with_reducible rfl
      rotate_left
      · simp only [Act.put, List.setIfInBounds_toArray, List.set_cons_zero, List.set_cons_succ, i64_w, i32_w]
        rfl
      refine one_ (i := 1) (N := some 149) #[true, true, false, false, false, false, false, false, false, false, false, false, false, false, false, false, false, false, false, false, false, false, false, false, false, false, false, false, false, false, false, false, false, false, false, false, false, false, false, false, false, false, false, false, false, false, false, false, false, false, false, false, false, false, false, false, false, false, false, false, false, false, false, false, false, false, false, false, false, false, false, false, false, false, false, false, false, false, false, false, false, false, false, false, false, false] rfl rfl (one_of HT_.out (by kernel_rfl)) (by decide) (fun K hK => ?_)
      refine goes_ Try.func26 (by kernel_rfl) rfl #[] (by rfl) rfl rfl (by simp only [List.map_toArray, List.map_cons, List.map_nil]) ?_
      with_reducible refine (Hal.out w2262).mono ?_
      rintro e_ w2267 ⟨rfl, hb_⟩
      refine ⟨_, rfl, ?_⟩
      have B2268 := Aside0.mk (below_step B2264.out hb_)
      have B2269 := Aside0.mk (below_step B2265.out hb_)
      have B2270 := Aside0.mk (below_step B2266.out hb_)
      have H2271 := Aside0.mk (blk_below H2263.out hb_)
      clear hb_ B2264 B2265 B2266 H2263
      refine hK.out _ _ ⟨(by rw [HSZ.out]; exact conv_of (c := c_rz) (Kd.C_below Rrz.out B2269.out)), ((blk_cell (i := 0) H2271.out).trans rfl), ((blk_cell (i := 1) H2271.out).trans rfl), ((blk_cell (i := 2) H2271.out).trans rfl), (by rw [HSY.out]; exact conv_of (c := c_ry) (Kd.C_below Rry.out B2270.out))⟩ (fun hHeld => ?_)
      clear hK K
      refine norm_ (a' := ?_) ?_ ?_
      rotate_left
      · show Act.put _ (some 149) _ = _
        simp only [Act.put, List.setIfInBounds_toArray, List.set_cons_zero, List.set_cons_succ, i64_w, i32_w]
        rfl
      refine pure_ (i := 2) (N := some 150) (v := ?_) (a' := ?_) #[true, true, true, false, false, false, false, false, false, false, false, false, false, false, false, false, false, false, false, false, false, false, false, false, false, false, false, false, false, false, false, false, false, false, false, false, false, false, false, false, false, false, false, false, false, false, false, false, false, false, false, false, false, false, false, false, false, false, false, false, false, false, false, false, false, false, false, false, false, false, false, false, false, false, false, false, false, false, false, false, false, false, false, false, false, false] rfl rfl (any_of HT_.out (by kernel_rfl)) (fun _ _ _ h => h) (Or.inl ⟨by rfl, ?_⟩) ?_ ?_
      rotate_left
      · intro w'
        go_simp
        with_reducible rfl
      rotate_left
      · simp only [Act.put, List.setIfInBounds_toArray, List.set_cons_zero, List.set_cons_succ, i64_w, i32_w]
        rfl
      refine pure_ (i := 3) (N := some 151) (v := ?_) (a' := ?_) #[true, true, true, true, false, false, false, false, false, false, false, false, false, false, false, false, false, false, false, false, false, false, false, false, false, false, false, false, false, false, false, false, false, false, false, false, false, false, false, false, false, false, false, false, false, false, false, false, false, false, false, false, false, false, false, false, false, false, false, false, false, false, false, false, false, false, false, false, false, false, false, false, false, false, false, false, false, false, false, false, false, false, false, false, false, false] rfl rfl (any_of HT_.out (by kernel_rfl)) (fun _ _ _ h => h) (Or.inl ⟨by rfl, ?_⟩) ?_ ?_
      rotate_left
      · intro w'
        go_simp
        with_reducible rfl
      rotate_left
      · simp only [Act.put, List.setIfInBounds_toArray, List.set_cons_zero, List.set_cons_succ, i64_w, i32_w]
        rfl
      refine pure_ (i := 4) (N := some 152) (v := ?_) (a' := ?_) #[true, true, true, true, true, false, false, false, false, false, false, false, false, false, false, false, false, false, false, false, false, false, false, false, false, false, false, false, false, false, false, false, false, false, false, false, false, false, false, false, false, false, false, false, false, false, false, false, false, false, false, false, false, false, false, false, false, false, false, false, false, false, false, false, false, false, false, false, false, false, false, false, false, false, false, false, false, false, false, false, false, false, false, false, false, false] rfl rfl (any_of HT_.out (by kernel_rfl)) (fun _ _ _ h => h) (Or.inl ⟨by rfl, ?_⟩) ?_ ?_
      rotate_left
      · intro w'
        go_simp
        with_reducible rfl
      rotate_left
      · simp only [Act.put, List.setIfInBounds_toArray, List.set_cons_zero, List.set_cons_succ, i64_w, i32_w]
        rfl
      refine pure_ (i := 5) (N := some 153) (v := ?_) (a' := ?_) #[true, true, true, true, true, true, false, false, false, false, false, false, false, false, false, false, false, false, false, false, false, false, false, false, false, false, false, false, false, false, false, false, false, false, false, false, false, false, false, false, false, false, false, false, false, false, false, false, false, false, false, false, false, false, false, false, false, false, false, false, false, false, false, false, false, false, false, false, false, false, false, false, false, false, false, false, false, false, false, false, false, false, false, false, false, false] rfl rfl (any_of HT_.out (by kernel_rfl)) (fun _ _ _ h => h) (Or.inl ⟨by rfl, ?_⟩) ?_ ?_
      rotate_left
      · intro w'
        go_simp
        with_reducible rfl
      rotate_left
      · simp only [Act.put, List.setIfInBounds_toArray, List.set_cons_zero, List.set_cons_succ, i64_w, i32_w]
        rfl
      refine pure_ (i := 6) (N := some 154) (v := ?_) (a' := ?_) #[true, true, true, true, true, true, true, false, false, false, false, false, false, false, false, false, false, false, false, false, false, false, false, false, false, false, false, false, false, false, false, false, false, false, false, false, false, false, false, false, false, false, false, false, false, false, false, false, false, false, false, false, false, false, false, false, false, false, false, false, false, false, false, false, false, false, false, false, false, false, false, false, false, false, false, false, false, false, false, false, false, false, false, false, false, false] rfl rfl (any_of HT_.out (by kernel_rfl)) (fun _ _ _ h => h) (Or.inl ⟨by rfl, ?_⟩) ?_ ?_
      rotate_left
      · intro w'
        go_simp
        with_reducible rfl
      rotate_left
      · simp only [Act.put, List.setIfInBounds_toArray, List.set_cons_zero, List.set_cons_succ, i64_w, i32_w]
        rfl
      refine pure_ (i := 7) (N := some 155) (v := ?_) (a' := ?_) #[true, true, true, true, true, true, true, true, false, false, false, false, false, false, false, false, false, false, false, false, false, false, false, false, false, false, false, false, false, false, false, false, false, false, false, false, false, false, false, false, false, false, false, false, false, false, false, false, false, false, false, false, false, false, false, false, false, false, false, false, false, false, false, false, false, false, false, false, false, false, false, false, false, false, false, false, false, false, false, false, false, false, false, false, false, false] rfl rfl (any_of HT_.out (by kernel_rfl)) (fun _ _ _ h => h) (Or.inl ⟨by rfl, ?_⟩) ?_ ?_
      rotate_left
      · intro w'
        go_simp
        with_reducible rfl
      rotate_left
      · simp only [Act.put, List.setIfInBounds_toArray, List.set_cons_zero, List.set_cons_succ, i64_w, i32_w]
        rfl
      refine pure_ (i := 8) (N := some 156) (v := ?_) (a' := ?_) #[true, true, true, true, true, true, true, true, true, false, false, false, false, false, false, false, false, false, false, false, false, false, false, false, false, false, false, false, false, false, false, false, false, false, false, false, false, false, false, false, false, false, false, false, false, false, false, false, false, false, false, false, false, false, false, false, false, false, false, false, false, false, false, false, false, false, false, false, false, false, false, false, false, false, false, false, false, false, false, false, false, false, false, false, false, false] rfl rfl (any_of HT_.out (by kernel_rfl)) (fun _ _ _ h => h) (Or.inl ⟨by rfl, ?_⟩) ?_ ?_
      rotate_left
      · intro w'
        go_simp
        with_reducible rfl
      rotate_left
      · simp only [Act.put, List.setIfInBounds_toArray, List.set_cons_zero, List.set_cons_succ, i64_w, i32_w]
        rfl
      refine pure_ (i := 9) (N := some 157) (v := ?_) (a' := ?_) #[true, true, true, true, true, true, true, true, true, true, false, false, false, false, false, false, false, false, false, false, false, false, false, false, false, false, false, false, false, false, false, false, false, false, false, false, false, false, false, false, false, false, false, false, false, false, false, false, false, false, false, false, false, false, false, false, false, false, false, false, false, false, false, false, false, false, false, false, false, false, false, false, false, false, false, false, false, false, false, false, false, false, false, false, false, false] rfl rfl (any_of HT_.out (by kernel_rfl)) (fun _ _ _ h => h) (Or.inl ⟨by rfl, ?_⟩) ?_ ?_
      rotate_left
      · intro w'
        go_simp
        with_reducible rfl
      rotate_left
      · simp only [Act.put, List.setIfInBounds_toArray, List.set_cons_zero, List.set_cons_succ, i64_w, i32_w]
        rfl
      refine pure_ (i := 10) (N := some 158) (v := ?_) (a' := ?_) #[true, true, true, true, true, true, true, true, true, true, true, false, false, false, false, false, false, false, false, false, false, false, false, false, false, false, false, false, false, false, false, false, false, false, false, false, false, false, false, false, false, false, false, false, false, false, false, false, false, false, false, false, false, false, false, false, false, false, false, false, false, false, false, false, false, false, false, false, false, false, false, false, false, false, false, false, false, false, false, false, false, false, false, false, false, false] rfl rfl (any_of HT_.out (by kernel_rfl)) (fun _ _ _ h => h) (Or.inl ⟨by rfl, ?_⟩) ?_ ?_
      rotate_left
      · intro w'
        go_simp
        with_reducible rfl
      rotate_left
      · simp only [Act.put, List.setIfInBounds_toArray, List.set_cons_zero, List.set_cons_succ, i64_w, i32_w]
        rfl
      refine pure_ (i := 11) (N := some 159) (v := ?_) (a' := ?_) #[true, true, true, true, true, true, true, true, true, true, true, true, false, false, false, false, false, false, false, false, false, false, false, false, false, false, false, false, false, false, false, false, false, false, false, false, false, false, false, false, false, false, false, false, false, false, false, false, false, false, false, false, false, false, false, false, false, false, false, false, false, false, false, false, false, false, false, false, false, false, false, false, false, false, false, false, false, false, false, false, false, false, false, false, false, false] rfl rfl (any_of HT_.out (by kernel_rfl)) (fun _ _ _ h => h) (Or.inl ⟨by rfl, ?_⟩) ?_ ?_
      rotate_left
      · intro w'
        go_simp
        with_reducible rfl
      rotate_left
      · simp only [Act.put, List.setIfInBounds_toArray, List.set_cons_zero, List.set_cons_succ, i64_w, i32_w]
        rfl
      refine pure_ (i := 12) (N := some 160) (v := ?_) (a' := ?_) #[true, true, true, true, true, true, true, true, true, true, true, true, true, false, false, false, false, false, false, false, false, false, false, false, false, false, false, false, false, false, false, false, false, false, false, false, false, false, false, false, false, false, false, false, false, false, false, false, false, false, false, false, false, false, false, false, false, false, false, false, false, false, false, false, false, false, false, false, false, false, false, false, false, false, false, false, false, false, false, false, false, false, false, false, false, false] rfl rfl (any_of HT_.out (by kernel_rfl)) (fun _ _ _ h => h) (Or.inl ⟨by rfl, ?_⟩) ?_ ?_
      rotate_left
      · intro w'
        go_simp
        with_reducible rfl
      rotate_left
      · simp only [Act.put, List.setIfInBounds_toArray, List.set_cons_zero, List.set_cons_succ, i64_w, i32_w]
        rfl
      refine pure_ (i := 13) (N := some 161) (v := ?_) (a' := ?_) #[true, true, true, true, true, true, true, true, true, true, true, true, true, true, false, false, false, false, false, false, false, false, false, false, false, false, false, false, false, false, false, false, false, false, false, false, false, false, false, false, false, false, false, false, false, false, false, false, false, false, false, false, false, false, false, false, false, false, false, false, false, false, false, false, false, false, false, false, false, false, false, false, false, false, false, false, false, false, false, false, false, false, false, false, false, false] rfl rfl (any_of HT_.out (by kernel_rfl)) (fun _ _ _ h => h) (Or.inl ⟨by rfl, ?_⟩) ?_ ?_
      rotate_left
      · intro w'
        go_simp
        with_reducible rfl
      rotate_left
      · simp only [Act.put, List.setIfInBounds_toArray, List.set_cons_zero, List.set_cons_succ, i64_w, i32_w]
        rfl
      refine pure_ (i := 14) (N := some 162) (v := ?_) (a' := ?_) #[true, true, true, true, true, true, true, true, true, true, true, true, true, true, true, false, false, false, false, false, false, false, false, false, false, false, false, false, false, false, false, false, false, false, false, false, false, false, false, false, false, false, false, false, false, false, false, false, false, false, false, false, false, false, false, false, false, false, false, false, false, false, false, false, false, false, false, false, false, false, false, false, false, false, false, false, false, false, false, false, false, false, false, false, false, false] rfl rfl (any_of HT_.out (by kernel_rfl)) (fun _ _ _ h => h) (Or.inl ⟨by rfl, ?_⟩) ?_ ?_
      rotate_left
      · intro w'
        go_simp
        with_reducible rfl
      rotate_left
      · simp only [Act.put, List.setIfInBounds_toArray, List.set_cons_zero, List.set_cons_succ, i64_w, i32_w]
        rfl
      refine pure_ (i := 15) (N := some 163) (v := ?_) (a' := ?_) #[true, true, true, true, true, true, true, true, true, true, true, true, true, true, true, true, false, false, false, false, false, false, false, false, false, false, false, false, false, false, false, false, false, false, false, false, false, false, false, false, false, false, false, false, false, false, false, false, false, false, false, false, false, false, false, false, false, false, false, false, false, false, false, false, false, false, false, false, false, false, false, false, false, false, false, false, false, false, false, false, false, false, false, false, false, false] rfl rfl (any_of HT_.out (by kernel_rfl)) (fun _ _ _ h => h) (Or.inl ⟨by rfl, ?_⟩) ?_ ?_
      rotate_left
      · intro w'
        go_simp
        with_reducible rfl
      rotate_left
      · simp only [Act.put, List.setIfInBounds_toArray, List.set_cons_zero, List.set_cons_succ, i64_w, i32_w]
        rfl
      refine pure_ (i := 16) (N := some 164) (v := ?_) (a' := ?_) #[true, true, true, true, true, true, true, true, true, true, true, true, true, true, true, true, true, false, false, false, false, false, false, false, false, false, false, false, false, false, false, false, false, false, false, false, false, false, false, false, false, false, false, false, false, false, false, false, false, false, false, false, false, false, false, false, false, false, false, false, false, false, false, false, false, false, false, false, false, false, false, false, false, false, false, false, false, false, false, false, false, false, false, false, false, false] rfl rfl (any_of HT_.out (by kernel_rfl)) (fun _ _ _ h => h) (Or.inl ⟨by rfl, ?_⟩) ?_ ?_
      rotate_left
      · intro w'
        go_simp
        with_reducible rfl
      rotate_left
      · simp only [Act.put, List.setIfInBounds_toArray, List.set_cons_zero, List.set_cons_succ, i64_w, i32_w]
        rfl
      refine pure_ (i := 17) (N := some 165) (v := ?_) (a' := ?_) #[true, true, true, true, true, true, true, true, true, true, true, true, true, true, true, true, true, true, false, false, false, false, false, false, false, false, false, false, false, false, false, false, false, false, false, false, false, false, false, false, false, false, false, false, false, false, false, false, false, false, false, false, false, false, false, false, false, false, false, false, false, false, false, false, false, false, false, false, false, false, false, false, false, false, false, false, false, false, false, false, false, false, false, false, false, false] rfl rfl (any_of HT_.out (by kernel_rfl)) (fun _ _ _ h => h) (Or.inl ⟨by rfl, ?_⟩) ?_ ?_
      rotate_left
      · intro w'
        go_simp
        with_reducible rfl
      rotate_left
      · simp only [Act.put, List.setIfInBounds_toArray, List.set_cons_zero, List.set_cons_succ, i64_w, i32_w]
        rfl
      refine pure_ (i := 18) (N := some 166) (v := ?_) (a' := ?_) #[true, true, true, true, true, true, true, true, true, true, true, true, true, true, true, true, true, true, true, false, false, false, false, false, false, false, false, false, false, false, false, false, false, false, false, false, false, false, false, false, false, false, false, false, false, false, false, false, false, false, false, false, false, false, false, false, false, false, false, false, false, false, false, false, false, false, false, false, false, false, false, false, false, false, false, false, false, false, false, false, false, false, false, false, false, false] rfl rfl (any_of HT_.out (by kernel_rfl)) (fun _ _ _ h => h) (Or.inl ⟨by rfl, ?_⟩) ?_ ?_
      rotate_left
      · intro w'
        go_simp
        with_reducible rfl
      rotate_left
      · simp only [Act.put, List.setIfInBounds_toArray, List.set_cons_zero, List.set_cons_succ, i64_w, i32_w]
        rfl
      refine pure_ (i := 19) (N := some 167) (v := ?_) (a' := ?_) #[true, true, true, true, true, true, true, true, true, true, true, true, true, true, true, true, true, true, true, true, false, false, false, false, false, false, false, false, false, false, false, false, false, false, false, false, false, false, false, false, false, false, false, false, false, false, false, false, false, false, false, false, false, false, false, false, false, false, false, false, false, false, false, false, false, false, false, false, false, false, false, false, false, false, false, false, false, false, false, false, false, false, false, false, false, false] rfl rfl (any_of HT_.out (by kernel_rfl)) (fun _ _ _ h => h) (Or.inl ⟨by rfl, ?_⟩) ?_ ?_
      rotate_left
      · intro w'
        go_simp
        with_reducible rfl
      rotate_left
      · simp only [Act.put, List.setIfInBounds_toArray, List.set_cons_zero, List.set_cons_succ, i64_w, i32_w]
        rfl
      refine pure_ (i := 20) (N := some 168) (v := ?_) (a' := ?_) #[true, true, true, true, true, true, true, true, true, true, true, true, true, true, true, true, true, true, true, true, true, false, false, false, false, false, false, false, false, false, false, false, false, false, false, false, false, false, false, false, false, false, false, false, false, false, false, false, false, false, false, false, false, false, false, false, false, false, false, false, false, false, false, false, false, false, false, false, false, false, false, false, false, false, false, false, false, false, false, false, false, false, false, false, false, false] rfl rfl (any_of HT_.out (by kernel_rfl)) (fun _ _ _ h => h) (Or.inl ⟨by rfl, ?_⟩) ?_ ?_
      rotate_left
      · intro w'
        go_simp
        with_reducible rfl
      rotate_left
      · simp only [Act.put, List.setIfInBounds_toArray, List.set_cons_zero, List.set_cons_succ, i64_w, i32_w]
        rfl
      refine pure_ (i := 21) (N := some 169) (v := ?_) (a' := ?_) #[true, true, true, true, true, true, true, true, true, true, true, true, true, true, true, true, true, true, true, true, true, true, false, false, false, false, false, false, false, false, false, false, false, false, false, false, false, false, false, false, false, false, false, false, false, false, false, false, false, false, false, false, false, false, false, false, false, false, false, false, false, false, false, false, false, false, false, false, false, false, false, false, false, false, false, false, false, false, false, false, false, false, false, false, false, false] rfl rfl (any_of HT_.out (by kernel_rfl)) (fun _ _ _ h => h) (Or.inl ⟨by rfl, ?_⟩) ?_ ?_
      rotate_left
      · intro w'
        go_simp
        with_reducible rfl
      rotate_left
      · simp only [Act.put, List.setIfInBounds_toArray, List.set_cons_zero, List.set_cons_succ, i64_w, i32_w]
        rfl
      refine pure_ (i := 22) (N := some 170) (v := ?_) (a' := ?_) #[true, true, true, true, true, true, true, true, true, true, true, true, true, true, true, true, true, true, true, true, true, true, true, false, false, false, false, false, false, false, false, false, false, false, false, false, false, false, false, false, false, false, false, false, false, false, false, false, false, false, false, false, false, false, false, false, false, false, false, false, false, false, false, false, false, false, false, false, false, false, false, false, false, false, false, false, false, false, false, false, false, false, false, false, false, false] rfl rfl (any_of HT_.out (by kernel_rfl)) (fun _ _ _ h => h) (Or.inl ⟨by rfl, ?_⟩) ?_ ?_
      rotate_left
      · intro w'
        go_simp
        with_reducible rfl
      rotate_left
      · simp only [Act.put, List.setIfInBounds_toArray, List.set_cons_zero, List.set_cons_succ, i64_w, i32_w]
        rfl
      refine pure_ (i := 23) (N := some 171) (v := ?_) (a' := ?_) #[true, true, true, true, true, true, true, true, true, true, true, true, true, true, true, true, true, true, true, true, true, true, true, true, false, false, false, false, false, false, false, false, false, false, false, false, false, false, false, false, false, false, false, false, false, false, false, false, false, false, false, false, false, false, false, false, false, false, false, false, false, false, false, false, false, false, false, false, false, false, false, false, false, false, false, false, false, false, false, false, false, false, false, false, false, false] rfl rfl (any_of HT_.out (by kernel_rfl)) (fun _ _ _ h => h) (Or.inl ⟨by rfl, ?_⟩) ?_ ?_
      rotate_left
      · intro w'
        go_simp
        with_reducible rfl
      rotate_left
      · simp only [Act.put, List.setIfInBounds_toArray, List.set_cons_zero, List.set_cons_succ, i64_w, i32_w]
        rfl
      refine pure_ (i := 24) (N := some 172) (v := ?_) (a' := ?_) #[true, true, true, true, true, true, true, true, true, true, true, true, true, true, true, true, true, true, true, true, true, true, true, true, true, false, false, false, false, false, false, false, false, false, false, false, false, false, false, false, false, false, false, false, false, false, false, false, false, false, false, false, false, false, false, false, false, false, false, false, false, false, false, false, false, false, false, false, false, false, false, false, false, false, false, false, false, false, false, false, false, false, false, false, false, false] rfl rfl (any_of HT_.out (by kernel_rfl)) (fun _ _ _ h => h) (Or.inl ⟨by rfl, ?_⟩) ?_ ?_
      rotate_left
      · intro w'
        go_simp
        with_reducible rfl
      rotate_left
      · simp only [Act.put, List.setIfInBounds_toArray, List.set_cons_zero, List.set_cons_succ, i64_w, i32_w]
        rfl
      refine pure_ (i := 25) (N := some 173) (v := ?_) (a' := ?_) #[true, true, true, true, true, true, true, true, true, true, true, true, true, true, true, true, true, true, true, true, true, true, true, true, true, true, false, false, false, false, false, false, false, false, false, false, false, false, false, false, false, false, false, false, false, false, false, false, false, false, false, false, false, false, false, false, false, false, false, false, false, false, false, false, false, false, false, false, false, false, false, false, false, false, false, false, false, false, false, false, false, false, false, false, false, false] rfl rfl (any_of HT_.out (by kernel_rfl)) (fun _ _ _ h => h) (Or.inl ⟨by rfl, ?_⟩) ?_ ?_
      rotate_left
      · intro w'
        go_simp
        with_reducible rfl
      rotate_left
      · simp only [Act.put, List.setIfInBounds_toArray, List.set_cons_zero, List.set_cons_succ, i64_w, i32_w]
        rfl
      refine pure_ (i := 26) (N := some 174) (v := ?_) (a' := ?_) #[true, true, true, true, true, true, true, true, true, true, true, true, true, true, true, true, true, true, true, true, true, true, true, true, true, true, true, false, false, false, false, false, false, false, false, false, false, false, false, false, false, false, false, false, false, false, false, false, false, false, false, false, false, false, false, false, false, false, false, false, false, false, false, false, false, false, false, false, false, false, false, false, false, false, false, false, false, false, false, false, false, false, false, false, false, false] rfl rfl (any_of HT_.out (by kernel_rfl)) (fun _ _ _ h => h) (Or.inl ⟨by rfl, ?_⟩) ?_ ?_
      rotate_left
      · intro w'
        go_simp
        with_reducible rfl
      rotate_left
      · simp only [Act.put, List.setIfInBounds_toArray, List.set_cons_zero, List.set_cons_succ, i64_w, i32_w]
        rfl
      refine pure_ (i := 27) (N := some 175) (v := ?_) (a' := ?_) #[true, true, true, true, true, true, true, true, true, true, true, true, true, true, true, true, true, true, true, true, true, true, true, true, true, true, true, true, false, false, false, false, false, false, false, false, false, false, false, false, false, false, false, false, false, false, false, false, false, false, false, false, false, false, false, false, false, false, false, false, false, false, false, false, false, false, false, false, false, false, false, false, false, false, false, false, false, false, false, false, false, false, false, false, false, false] rfl rfl (any_of HT_.out (by kernel_rfl)) (fun _ _ _ h => h) (Or.inl ⟨by rfl, ?_⟩) ?_ ?_
      rotate_left
      · intro w'
        go_simp
        with_reducible rfl
      rotate_left
      · simp only [Act.put, List.setIfInBounds_toArray, List.set_cons_zero, List.set_cons_succ, i64_w, i32_w]
        rfl
      refine pure_ (i := 28) (N := some 176) (v := ?_) (a' := ?_) #[true, true, true, true, true, true, true, true, true, true, true, true, true, true, true, true, true, true, true, true, true, true, true, true, true, true, true, true, true, false, false, false, false, false, false, false, false, false, false, false, false, false, false, false, false, false, false, false, false, false, false, false, false, false, false, false, false, false, false, false, false, false, false, false, false, false, false, false, false, false, false, false, false, false, false, false, false, false, false, false, false, false, false, false, false, false] rfl rfl (any_of HT_.out (by kernel_rfl)) (fun _ _ _ h => h) (Or.inl ⟨by rfl, ?_⟩) ?_ ?_
      rotate_left
      · intro w'
        go_simp
        with_reducible rfl
      rotate_left
      · simp only [Act.put, List.setIfInBounds_toArray, List.set_cons_zero, List.set_cons_succ, i64_w, i32_w]
        rfl
      refine pure_ (i := 29) (N := some 177) (v := ?_) (a' := ?_) #[true, true, true, true, true, true, true, true, true, true, true, true, true, true, true, true, true, true, true, true, true, true, true, true, true, true, true, true, true, true, false, false, false, false, false, false, false, false, false, false, false, false, false, false, false, false, false, false, false, false, false, false, false, false, false, false, false, false, false, false, false, false, false, false, false, false, false, false, false, false, false, false, false, false, false, false, false, false, false, false, false, false, false, false, false, false] rfl rfl (any_of HT_.out (by kernel_rfl)) (fun _ _ _ h => h) (Or.inl ⟨by rfl, ?_⟩) ?_ ?_
      rotate_left
      · intro w'
        go_simp
        with_reducible rfl
      rotate_left
      · simp only [Act.put, List.setIfInBounds_toArray, List.set_cons_zero, List.set_cons_succ, i64_w, i32_w]
        rfl
      refine pure_ (i := 30) (N := some 178) (v := ?_) (a' := ?_) #[true, true, true, true, true, true, true, true, true, true, true, true, true, true, true, true, true, true, true, true, true, true, true, true, true, true, true, true, true, true, true, false, false, false, false, false, false, false, false, false, false, false, false, false, false, false, false, false, false, false, false, false, false, false, false, false, false, false, false, false, false, false, false, false, false, false, false, false, false, false, false, false, false, false, false, false, false, false, false, false, false, false, false, false, false, false] rfl rfl (any_of HT_.out (by kernel_rfl)) (fun _ _ _ h => h) (Or.inl ⟨by rfl, ?_⟩) ?_ ?_
      rotate_left
      · intro w'
        go_simp
        with_reducible rfl
      rotate_left
      · simp only [Act.put, List.setIfInBounds_toArray, List.set_cons_zero, List.set_cons_succ, i64_w, i32_w]
        rfl
      refine pure_ (i := 31) (N := some 179) (v := ?_) (a' := ?_) #[true, true, true, true, true, true, true, true, true, true, true, true, true, true, true, true, true, true, true, true, true, true, true, true, true, true, true, true, true, true, true, true, false, false, false, false, false, false, false, false, false, false, false, false, false, false, false, false, false, false, false, false, false, false, false, false, false, false, false, false, false, false, false, false, false, false, false, false, false, false, false, false, false, false, false, false, false, false, false, false, false, false, false, false, false, false] rfl rfl (any_of HT_.out (by kernel_rfl)) (fun _ _ _ h => h) (Or.inl ⟨by rfl, ?_⟩) ?_ ?_
      rotate_left
      · intro w'
        go_simp
        with_reducible rfl
      rotate_left
      · simp only [Act.put, List.setIfInBounds_toArray, List.set_cons_zero, List.set_cons_succ, i64_w, i32_w]
        rfl
      refine pure_ (i := 32) (N := some 180) (v := ?_) (a' := ?_) #[true, true, true, true, true, true, true, true, true, true, true, true, true, true, true, true, true, true, true, true, true, true, true, true, true, true, true, true, true, true, true, true, true, false, false, false, false, false, false, false, false, false, false, false, false, false, false, false, false, false, false, false, false, false, false, false, false, false, false, false, false, false, false, false, false, false, false, false, false, false, false, false, false, false, false, false, false, false, false, false, false, false, false, false, false, false] rfl rfl (any_of HT_.out (by kernel_rfl)) (fun _ _ _ h => h) (Or.inl ⟨by rfl, ?_⟩) ?_ ?_
      rotate_left
      · intro w'
        go_simp
        with_reducible rfl
      rotate_left
      · simp only [Act.put, List.setIfInBounds_toArray, List.set_cons_zero, List.set_cons_succ, i64_w, i32_w]
        rfl
      refine pure_ (i := 33) (N := some 181) (v := ?_) (a' := ?_) #[true, true, true, true, true, true, true, true, true, true, true, true, true, true, true, true, true, true, true, true, true, true, true, true, true, true, true, true, true, true, true, true, true, true, false, false, false, false, false, false, false, false, false, false, false, false, false, false, false, false, false, false, false, false, false, false, false, false, false, false, false, false, false, false, false, false, false, false, false, false, false, false, false, false, false, false, false, false, false, false, false, false, false, false, false, false] rfl rfl (any_of HT_.out (by kernel_rfl)) (fun _ _ _ h => h) (Or.inl ⟨by rfl, ?_⟩) ?_ ?_
      rotate_left
      · intro w'
        go_simp
        with_reducible rfl
      rotate_left
      · simp only [Act.put, List.setIfInBounds_toArray, List.set_cons_zero, List.set_cons_succ, i64_w, i32_w]
        rfl
      refine pure_ (i := 34) (N := some 182) (v := ?_) (a' := ?_) #[true, true, true, true, true, true, true, true, true, true, true, true, true, true, true, true, true, true, true, true, true, true, true, true, true, true, true, true, true, true, true, true, true, true, true, false, false, false, false, false, false, false, false, false, false, false, false, false, false, false, false, false, false, false, false, false, false, false, false, false, false, false, false, false, false, false, false, false, false, false, false, false, false, false, false, false, false, false, false, false, false, false, false, false, false, false] rfl rfl (any_of HT_.out (by kernel_rfl)) (fun _ _ _ h => h) (Or.inl ⟨by rfl, ?_⟩) ?_ ?_
      rotate_left
      · intro w'
        go_simp
        with_reducible rfl
      rotate_left
      · simp only [Act.put, List.setIfInBounds_toArray, List.set_cons_zero, List.set_cons_succ, i64_w, i32_w]
        rfl
      refine pure_ (i := 35) (N := some 183) (v := ?_) (a' := ?_) #[true, true, true, true, true, true, true, true, true, true, true, true, true, true, true, true, true, true, true, true, true, true, true, true, true, true, true, true, true, true, true, true, true, true, true, true, false, false, false, false, false, false, false, false, false, false, false, false, false, false, false, false, false, false, false, false, false, false, false, false, false, false, false, false, false, false, false, false, false, false, false, false, false, false, false, false, false, false, false, false, false, false, false, false, false, false] rfl rfl (any_of HT_.out (by kernel_rfl)) (fun _ _ _ h => h) (Or.inl ⟨by rfl, ?_⟩) ?_ ?_
      rotate_left
      · intro w'
        go_simp
        with_reducible rfl
      rotate_left
      · simp only [Act.put, List.setIfInBounds_toArray, List.set_cons_zero, List.set_cons_succ, i64_w, i32_w]
        rfl
      refine pure_ (i := 36) (N := some 184) (v := ?_) (a' := ?_) #[true, true, true, true, true, true, true, true, true, true, true, true, true, true, true, true, true, true, true, true, true, true, true, true, true, true, true, true, true, true, true, true, true, true, true, true, true, false, false, false, false, false, false, false, false, false, false, false, false, false, false, false, false, false, false, false, false, false, false, false, false, false, false, false, false, false, false, false, false, false, false, false, false, false, false, false, false, false, false, false, false, false, false, false, false, false] rfl rfl (any_of HT_.out (by kernel_rfl)) (fun _ _ _ h => h) (Or.inl ⟨by rfl, ?_⟩) ?_ ?_
      rotate_left
      · intro w'
        go_simp
        with_reducible rfl
      rotate_left
      · simp only [Act.put, List.setIfInBounds_toArray, List.set_cons_zero, List.set_cons_succ, i64_w, i32_w]
        rfl
      refine pure_ (i := 37) (N := some 185) (v := ?_) (a' := ?_) #[true, true, true, true, true, true, true, true, true, true, true, true, true, true, true, true, true, true, true, true, true, true, true, true, true, true, true, true, true, true, true, true, true, true, true, true, true, true, false, false, false, false, false, false, false, false, false, false, false, false, false, false, false, false, false, false, false, false, false, false, false, false, false, false, false, false, false, false, false, false, false, false, false, false, false, false, false, false, false, false, false, false, false, false, false, false] rfl rfl (any_of HT_.out (by kernel_rfl)) (fun _ _ _ h => h) (Or.inl ⟨by rfl, ?_⟩) ?_ ?_
      rotate_left
      · intro w'
        go_simp
        with_reducible rfl
      rotate_left
      · simp only [Act.put, List.setIfInBounds_toArray, List.set_cons_zero, List.set_cons_succ, i64_w, i32_w]
        rfl
      refine pure_ (i := 38) (N := some 186) (v := ?_) (a' := ?_) #[true, true, true, true, true, true, true, true, true, true, true, true, true, true, true, true, true, true, true, true, true, true, true, true, true, true, true, true, true, true, true, true, true, true, true, true, true, true, true, false, false, false, false, false, false, false, false, false, false, false, false, false, false, false, false, false, false, false, false, false, false, false, false, false, false, false, false, false, false, false, false, false, false, false, false, false, false, false, false, false, false, false, false, false, false, false] rfl rfl (any_of HT_.out (by kernel_rfl)) (fun _ _ _ h => h) (Or.inl ⟨by rfl, ?_⟩) ?_ ?_
      rotate_left
      · intro w'
        go_simp
        with_reducible rfl
      rotate_left
      · simp only [Act.put, List.setIfInBounds_toArray, List.set_cons_zero, List.set_cons_succ, i64_w, i32_w]
        rfl
      refine pure_ (i := 39) (N := some 187) (v := ?_) (a' := ?_) #[true, true, true, true, true, true, true, true, true, true, true, true, true, true, true, true, true, true, true, true, true, true, true, true, true, true, true, true, true, true, true, true, true, true, true, true, true, true, true, true, false, false, false, false, false, false, false, false, false, false, false, false, false, false, false, false, false, false, false, false, false, false, false, false, false, false, false, false, false, false, false, false, false, false, false, false, false, false, false, false, false, false, false, false, false, false] rfl rfl (any_of HT_.out (by kernel_rfl)) (fun _ _ _ h => h) (Or.inl ⟨by rfl, ?_⟩) ?_ ?_
      rotate_left
      · intro w'
        go_simp
        with_reducible rfl
      rotate_left
      · simp only [Act.put, List.setIfInBounds_toArray, List.set_cons_zero, List.set_cons_succ, i64_w, i32_w]
        rfl
      refine pure_ (i := 40) (N := some 188) (v := ?_) (a' := ?_) #[true, true, true, true, true, true, true, true, true, true, true, true, true, true, true, true, true, true, true, true, true, true, true, true, true, true, true, true, true, true, true, true, true, true, true, true, true, true, true, true, true, false, false, false, false, false, false, false, false, false, false, false, false, false, false, false, false, false, false, false, false, false, false, false, false, false, false, false, false, false, false, false, false, false, false, false, false, false, false, false, false, false, false, false, false, false] rfl rfl (any_of HT_.out (by kernel_rfl)) (fun _ _ _ h => h) (Or.inl ⟨by rfl, ?_⟩) ?_ ?_
      rotate_left
      · intro w'
        go_simp
        with_reducible rfl
      rotate_left
      · simp only [Act.put, List.setIfInBounds_toArray, List.set_cons_zero, List.set_cons_succ, i64_w, i32_w]
        rfl
      refine pure_ (i := 41) (N := some 189) (v := ?_) (a' := ?_) #[true, true, true, true, true, true, true, true, true, true, true, true, true, true, true, true, true, true, true, true, true, true, true, true, true, true, true, true, true, true, true, true, true, true, true, true, true, true, true, true, true, true, false, false, false, false, false, false, false, false, false, false, false, false, false, false, false, false, false, false, false, false, false, false, false, false, false, false, false, false, false, false, false, false, false, false, false, false, false, false, false, false, false, false, false, false] rfl rfl (any_of HT_.out (by kernel_rfl)) (fun _ _ _ h => h) (Or.inl ⟨by rfl, ?_⟩) ?_ ?_
      rotate_left
      · intro w'
        go_simp
        with_reducible rfl
      rotate_left
      · simp only [Act.put, List.setIfInBounds_toArray, List.set_cons_zero, List.set_cons_succ, i64_w, i32_w]
        rfl
      refine pure_ (i := 42) (N := some 190) (v := ?_) (a' := ?_) #[true, true, true, true, true, true, true, true, true, true, true, true, true, true, true, true, true, true, true, true, true, true, true, true, true, true, true, true, true, true, true, true, true, true, true, true, true, true, true, true, true, true, true, false, false, false, false, false, false, false, false, false, false, false, false, false, false, false, false, false, false, false, false, false, false, false, false, false, false, false, false, false, false, false, false, false, false, false, false, false, false, false, false, false, false, false] rfl rfl (any_of HT_.out (by kernel_rfl)) (fun _ _ _ h => h) (Or.inl ⟨by rfl, ?_⟩) ?_ ?_
      rotate_left
      · intro w'
        go_simp
        with_reducible rfl
      rotate_left
      · simp only [Act.put, List.setIfInBounds_toArray, List.set_cons_zero, List.set_cons_succ, i64_w, i32_w]
        rfl
      refine pure_ (i := 43) (N := some 191) (v := ?_) (a' := ?_) #[true, true, true, true, true, true, true, true, true, true, true, true, true, true, true, true, true, true, true, true, true, true, true, true, true, true, true, true, true, true, true, true, true, true, true, true, true, true, true, true, true, true, true, true, false, false, false, false, false, false, false, false, false, false, false, false, false, false, false, false, false, false, false, false, false, false, false, false, false, false, false, false, false, false, false, false, false, false, false, false, false, false, false, false, false, false] rfl rfl (any_of HT_.out (by kernel_rfl)) (fun _ _ _ h => h) (Or.inl ⟨by rfl, ?_⟩) ?_ ?_
      rotate_left
      · intro w'
        go_simp
        with_reducible rfl
      rotate_left
      · simp only [Act.put, List.setIfInBounds_toArray, List.set_cons_zero, List.set_cons_succ, i64_w, i32_w]
        rfl
      refine pure_ (i := 44) (N := some 192) (v := ?_) (a' := ?_) #[true, true, true, true, true, true, true, true, true, true, true, true, true, true, true, true, true, true, true, true, true, true, true, true, true, true, true, true, true, true, true, true, true, true, true, true, true, true, true, true, true, true, true, true, true, false, false, false, false, false, false, false, false, false, false, false, false, false, false, false, false, false, false, false, false, false, false, false, false, false, false, false, false, false, false, false, false, false, false, false, false, false, false, false, false, false] rfl rfl (any_of HT_.out (by kernel_rfl)) (fun _ _ _ h => h) (Or.inl ⟨by rfl, ?_⟩) ?_ ?_
      rotate_left
      · intro w'
        go_simp
        with_reducible rfl
      rotate_left
      · simp only [Act.put, List.setIfInBounds_toArray, List.set_cons_zero, List.set_cons_succ, i64_w, i32_w]
        rfl
      refine pure_ (i := 45) (N := some 193) (v := ?_) (a' := ?_) #[true, true, true, true, true, true, true, true, true, true, true, true, true, true, true, true, true, true, true, true, true, true, true, true, true, true, true, true, true, true, true, true, true, true, true, true, true, true, true, true, true, true, true, true, true, true, false, false, false, false, false, false, false, false, false, false, false, false, false, false, false, false, false, false, false, false, false, false, false, false, false, false, false, false, false, false, false, false, false, false, false, false, false, false, false, false] rfl rfl (any_of HT_.out (by kernel_rfl)) (fun _ _ _ h => h) (Or.inl ⟨by rfl, ?_⟩) ?_ ?_
      rotate_left
      · intro w'
        go_simp
        with_reducible rfl
      rotate_left
      · simp only [Act.put, List.setIfInBounds_toArray, List.set_cons_zero, List.set_cons_succ, i64_w, i32_w]
        rfl
      refine pure_ (i := 46) (N := some 194) (v := ?_) (a' := ?_) #[true, true, true, true, true, true, true, true, true, true, true, true, true, true, true, true, true, true, true, true, true, true, true, true, true, true, true, true, true, true, true, true, true, true, true, true, true, true, true, true, true, true, true, true, true, true, true, false, false, false, false, false, false, false, false, false, false, false, false, false, false, false, false, false, false, false, false, false, false, false, false, false, false, false, false, false, false, false, false, false, false, false, false, false, false, false] rfl rfl (any_of HT_.out (by kernel_rfl)) (fun _ _ _ h => h) (Or.inl ⟨by rfl, ?_⟩) ?_ ?_
      rotate_left
      · intro w'
        go_simp
        with_reducible rfl
      rotate_left
      · simp only [Act.put, List.setIfInBounds_toArray, List.set_cons_zero, List.set_cons_succ, i64_w, i32_w]
        rfl
      refine pure_ (i := 47) (N := some 195) (v := ?_) (a' := ?_) #[true, true, true, true, true, true, true, true, true, true, true, true, true, true, true, true, true, true, true, true, true, true, true, true, true, true, true, true, true, true, true, true, true, true, true, true, true, true, true, true, true, true, true, true, true, true, true, true, false, false, false, false, false, false, false, false, false, false, false, false, false, false, false, false, false, false, false, false, false, false, false, false, false, false, false, false, false, false, false, false, false, false, false, false, false, false] rfl rfl (any_of HT_.out (by kernel_rfl)) (fun _ _ _ h => h) (Or.inl ⟨by rfl, ?_⟩) ?_ ?_
      rotate_left
      · intro w'
        go_simp
        with_reducible rfl
      rotate_left
      · simp only [Act.put, List.setIfInBounds_toArray, List.set_cons_zero, List.set_cons_succ, i64_w, i32_w]
        rfl
      refine pure_ (i := 48) (N := some 196) (v := ?_) (a' := ?_) #[true, true, true, true, true, true, true, true, true, true, true, true, true, true, true, true, true, true, true, true, true, true, true, true, true, true, true, true, true, true, true, true, true, true, true, true, true, true, true, true, true, true, true, true, true, true, true, true, true, false, false, false, false, false, false, false, false, false, false, false, false, false, false, false, false, false, false, false, false, false, false, false, false, false, false, false, false, false, false, false, false, false, false, false, false, false] rfl rfl (any_of HT_.out (by kernel_rfl)) (fun _ _ _ h => h) (Or.inl ⟨by rfl, ?_⟩) ?_ ?_
      rotate_left
      · intro w'
        go_simp
        with_reducible rfl
      rotate_left
      · simp only [Act.put, List.setIfInBounds_toArray, List.set_cons_zero, List.set_cons_succ, i64_w, i32_w]
        rfl
      refine pure_ (i := 49) (N := some 197) (v := ?_) (a' := ?_) #[true, true, true, true, true, true, true, true, true, true, true, true, true, true, true, true, true, true, true, true, true, true, true, true, true, true, true, true, true, true, true, true, true, true, true, true, true, true, true, true, true, true, true, true, true, true, true, true, true, true, false, false, false, false, false, false, false, false, false, false, false, false, false, false, false, false, false, false, false, false, false, false, false, false, false, false, false, false, false, false, false, false, false, false, false, false] rfl rfl (any_of HT_.out (by kernel_rfl)) (fun _ _ _ h => h) (Or.inl ⟨by rfl, ?_⟩) ?_ ?_
      rotate_left
      · intro w'
        go_simp
        with_reducible rfl
      rotate_left
      · simp only [Act.put, List.setIfInBounds_toArray, List.set_cons_zero, List.set_cons_succ, i64_w, i32_w]
        rfl
      refine pure_ (i := 50) (N := some 198) (v := ?_) (a' := ?_) #[true, true, true, true, true, true, true, true, true, true, true, true, true, true, true, true, true, true, true, true, true, true, true, true, true, true, true, true, true, true, true, true, true, true, true, true, true, true, true, true, true, true, true, true, true, true, true, true, true, true, true, false, false, false, false, false, false, false, false, false, false, false, false, false, false, false, false, false, false, false, false, false, false, false, false, false, false, false, false, false, false, false, false, false, false, false] rfl rfl (any_of HT_.out (by kernel_rfl)) (fun _ _ _ h => h) (Or.inl ⟨by rfl, ?_⟩) ?_ ?_
      rotate_left
      · intro w'
        go_simp
        with_reducible rfl
      rotate_left
      · simp only [Act.put, List.setIfInBounds_toArray, List.set_cons_zero, List.set_cons_succ, i64_w, i32_w]
        rfl
      refine pure_ (i := 51) (N := some 199) (v := ?_) (a' := ?_) #[true, true, true, true, true, true, true, true, true, true, true, true, true, true, true, true, true, true, true, true, true, true, true, true, true, true, true, true, true, true, true, true, true, true, true, true, true, true, true, true, true, true, true, true, true, true, true, true, true, true, true, true, false, false, false, false, false, false, false, false, false, false, false, false, false, false, false, false, false, false, false, false, false, false, false, false, false, false, false, false, false, false, false, false, false, false] rfl rfl (any_of HT_.out (by kernel_rfl)) (fun _ _ _ h => h) (Or.inl ⟨by rfl, ?_⟩) ?_ ?_
      rotate_left
      · intro w'
        go_simp
        with_reducible rfl
      rotate_left
      · simp only [Act.put, List.setIfInBounds_toArray, List.set_cons_zero, List.set_cons_succ, i64_w, i32_w]
        rfl
      refine pure_ (i := 52) (N := some 200) (v := ?_) (a' := ?_) #[true, true, true, true, true, true, true, true, true, true, true, true, true, true, true, true, true, true, true, true, true, true, true, true, true, true, true, true, true, true, true, true, true, true, true, true, true, true, true, true, true, true, true, true, true, true, true, true, true, true, true, true, true, false, false, false, false, false, false, false, false, false, false, false, false, false, false, false, false, false, false, false, false, false, false, false, false, false, false, false, false, false, false, false, false, false] rfl rfl (any_of HT_.out (by kernel_rfl)) (fun _ _ _ h => h) (Or.inl ⟨by rfl, ?_⟩) ?_ ?_
      rotate_left
      · intro w'
        go_simp
        with_reducible rfl
      rotate_left
      · simp only [Act.put, List.setIfInBounds_toArray, List.set_cons_zero, List.set_cons_succ, i64_w, i32_w]
        rfl
      refine pure_ (i := 53) (N := some 201) (v := ?_) (a' := ?_) #[true, true, true, true, true, true, true, true, true, true, true, true, true, true, true, true, true, true, true, true, true, true, true, true, true, true, true, true, true, true, true, true, true, true, true, true, true, true, true, true, true, true, true, true, true, true, true, true, true, true, true, true, true, true, false, false, false, false, false, false, false, false, false, false, false, false, false, false, false, false, false, false, false, false, false, false, false, false, false, false, false, false, false, false, false, false] rfl rfl (any_of HT_.out (by kernel_rfl)) (fun _ _ _ h => h) (Or.inl ⟨by rfl, ?_⟩) ?_ ?_
      rotate_left
      · intro w'
        go_simp
        with_reducible rfl
      rotate_left
      · simp only [Act.put, List.setIfInBounds_toArray, List.set_cons_zero, List.set_cons_succ, i64_w, i32_w]
        rfl
      refine pure_ (i := 54) (N := some 202) (v := ?_) (a' := ?_) #[true, true, true, true, true, true, true, true, true, true, true, true, true, true, true, true, true, true, true, true, true, true, true, true, true, true, true, true, true, true, true, true, true, true, true, true, true, true, true, true, true, true, true, true, true, true, true, true, true, true, true, true, true, true, true, false, false, false, false, false, false, false, false, false, false, false, false, false, false, false, false, false, false, false, false, false, false, false, false, false, false, false, false, false, false, false] rfl rfl (any_of HT_.out (by kernel_rfl)) (fun _ _ _ h => h) (Or.inl ⟨by rfl, ?_⟩) ?_ ?_
      rotate_left
      · intro w'
        go_simp
        with_reducible rfl
      rotate_left
      · simp only [Act.put, List.setIfInBounds_toArray, List.set_cons_zero, List.set_cons_succ, i64_w, i32_w]
        rfl
      refine pure_ (i := 55) (N := some 203) (v := ?_) (a' := ?_) #[true, true, true, true, true, true, true, true, true, true, true, true, true, true, true, true, true, true, true, true, true, true, true, true, true, true, true, true, true, true, true, true, true, true, true, true, true, true, true, true, true, true, true, true, true, true, true, true, true, true, true, true, true, true, true, true, false, false, false, false, false, false, false, false, false, false, false, false, false, false, false, false, false, false, false, false, false, false, false, false, false, false, false, false, false, false] rfl rfl (any_of HT_.out (by kernel_rfl)) (fun _ _ _ h => h) (Or.inl ⟨by rfl, ?_⟩) ?_ ?_
      rotate_left
      · intro w'
        go_simp
        with_reducible rfl
      rotate_left
      · simp only [Act.put, List.setIfInBounds_toArray, List.set_cons_zero, List.set_cons_succ, i64_w, i32_w]
        rfl
      refine pure_ (i := 56) (N := some 204) (v := ?_) (a' := ?_) #[true, true, true, true, true, true, true, true, true, true, true, true, true, true, true, true, true, true, true, true, true, true, true, true, true, true, true, true, true, true, true, true, true, true, true, true, true, true, true, true, true, true, true, true, true, true, true, true, true, true, true, true, true, true, true, true, true, false, false, false, false, false, false, false, false, false, false, false, false, false, false, false, false, false, false, false, false, false, false, false, false, false, false, false, false, false] rfl rfl (any_of HT_.out (by kernel_rfl)) (fun _ _ _ h => h) (Or.inl ⟨by rfl, ?_⟩) ?_ ?_
      rotate_left
      · intro w'
        go_simp
        with_reducible rfl
      rotate_left
      · simp only [Act.put, List.setIfInBounds_toArray, List.set_cons_zero, List.set_cons_succ, i64_w, i32_w]
        rfl
      refine pure_ (i := 57) (N := some 205) (v := ?_) (a' := ?_) #[true, true, true, true, true, true, true, true, true, true, true, true, true, true, true, true, true, true, true, true, true, true, true, true, true, true, true, true, true, true, true, true, true, true, true, true, true, true, true, true, true, true, true, true, true, true, true, true, true, true, true, true, true, true, true, true, true, true, false, false, false, false, false, false, false, false, false, false, false, false, false, false, false, false, false, false, false, false, false, false, false, false, false, false, false, false] rfl rfl (any_of HT_.out (by kernel_rfl)) (fun _ _ _ h => h) (Or.inl ⟨by rfl, ?_⟩) ?_ ?_
      rotate_left
      · intro w'
        go_simp
        with_reducible rfl
      rotate_left
      · simp only [Act.put, List.setIfInBounds_toArray, List.set_cons_zero, List.set_cons_succ, i64_w, i32_w]
        rfl
      refine take_ (i := 58) (N := some 206) (v := ?_) (a' := ?_) #[true, true, true, true, true, true, true, true, true, true, true, true, true, true, true, true, true, true, true, true, true, true, true, true, true, true, true, true, true, true, true, true, true, true, true, true, true, true, true, true, true, true, true, true, true, true, true, true, true, true, true, true, true, true, true, true, true, true, true, false, false, false, false, false, false, false, false, false, false, false, false, false, false, false, false, false, false, false, false, false, false, false, false, false, false, false] rfl rfl (take_ofW HT_.out HW_.out (by kernel_rfl)) (fun _ _ _ h => h) (Or.inl ⟨by rfl, ?_⟩) hHeld ?_ ?_
      rotate_left
      · rintro w' ⟨s0, s1, s2, s3, s4⟩
        go_simp
        with_reducible rfl
      rotate_left
      · simp only [Act.put, List.setIfInBounds_toArray, List.set_cons_zero, List.set_cons_succ, i64_w, i32_w]
        rfl
      refine one_ (i := 59) (N := some 207) #[true, true, true, true, true, true, true, true, true, true, true, true, true, true, true, true, true, true, true, true, true, true, true, true, true, true, true, true, true, true, true, true, true, true, true, true, true, true, true, true, true, true, true, true, true, true, true, true, true, true, true, true, true, true, true, true, true, true, true, true, false, false, false, false, false, false, false, false, false, false, false, false, false, false, false, false, false, false, false, false, false, false, false, false, false, false] rfl rfl (one_of HT_.out (by kernel_rfl)) (by decide) (fun K hK => ?_)
      refine Kd.R_make_step (Kd.int .u8) (w0 := w2267) _ 5 (by rfl) (N := 207) rfl 30 _ _ rfl 4 rfl rfl Try.underlying30 (.int .u8 0) 1 info5p rfl (by decide) (by decide) (0 : Int) (ok := fun _ => True) (okp := fun _ => True) rfl (fun _ h => h) trivial (by decide) (by decide) (Below.refl _ _) (Nat.le_refl _) ?_
      intro v_ w2272 hO_ hb_ hg_ _
      clear hg_
      obtain ⟨gw, c_gw, rfl, hle_, hC_⟩ := row_formK (n := 4) hO_ List.length_replicate (by decide)
      have B2273 := Aside0.mk (below_step B2268.out hb_)
      have B2274 := Aside0.mk (below_step B2269.out hb_)
      have B2275 := Aside0.mk (below_step B2270.out hb_)
      have H2276 := Aside0.mk (blk_below H2271.out hb_)
      have R2277 := Aside0.mk (show Kd.C (Kd.int .u8) w2272 (some ⟨gw, 0, none⟩) 4 (List.replicate 4 (0 : Int)) from hC_)
      have L2278 := Aside0.mk hle_
      clear hO_ hb_ hle_ hC_ B2268 B2269 B2270 H2271
      refine hK.out _ _ ⟨(by rw [HSZ.out]; exact conv_of (c := c_rz) (Kd.C_below Rrz.out B2274.out)), ((blk_cell (i := 0) H2276.out).trans rfl), ((blk_cell (i := 1) H2276.out).trans rfl), ((blk_cell (i := 2) H2276.out).trans rfl), (by rw [HSY.out]; exact conv_of (c := c_ry) (Kd.C_below Rry.out B2275.out))⟩ (fun hHeld => ?_)
      clear hK K
      refine norm_ (a' := ?_) ?_ ?_
      rotate_left
      · show Act.put _ (some 207) _ = _
        simp only [Act.put, List.setIfInBounds_toArray, List.set_cons_zero, List.set_cons_succ, i64_w, i32_w]
        rfl
      refine one_ (i := 60) (N := some 208) #[true, true, true, true, true, true, true, true, true, true, true, true, true, true, true, true, true, true, true, true, true, true, true, true, true, true, true, true, true, true, true, true, true, true, true, true, true, true, true, true, true, true, true, true, true, true, true, true, true, true, true, true, true, true, true, true, true, true, true, true, true, false, false, false, false, false, false, false, false, false, false, false, false, false, false, false, false, false, false, false, false, false, false, false, false, false] rfl rfl (one_of HT_.out (by kernel_rfl)) (by decide) (fun K hK => ?_)
      refine value_ (w1 := w2272) (v := .string sz) (by rfl) rfl (conv_exec rfl rfl (by rw [HSZ.out]; exact conv_of (c := c_gw) (Kd.C_below R2277.out (Below.refl _ _)))) ?_
      refine hK.out _ _ ⟨(by rw [HSZ.out]; exact conv_of (c := c_rz) (Kd.C_below Rrz.out B2274.out)), ((blk_cell (i := 0) H2276.out).trans rfl), ((blk_cell (i := 1) H2276.out).trans rfl), ((blk_cell (i := 2) H2276.out).trans rfl), (by rw [HSY.out]; exact conv_of (c := c_ry) (Kd.C_below Rry.out B2275.out))⟩ (fun hHeld => ?_)
      clear hK K
      refine norm_ (a' := ?_) ?_ ?_
      rotate_left
      · show Act.put _ (some 208) _ = _
        simp only [Act.put, List.setIfInBounds_toArray, List.set_cons_zero, List.set_cons_succ, i64_w, i32_w]
        rfl
      refine pure_ (i := 61) (N := some 209) (v := ?_) (a' := ?_) #[true, true, true, true, true, true, true, true, true, true, true, true, true, true, true, true, true, true, true, true, true, true, true, true, true, true, true, true, true, true, true, true, true, true, true, true, true, true, true, true, true, true, true, true, true, true, true, true, true, true, true, true, true, true, true, true, true, true, true, true, true, true, false, false, false, false, false, false, false, false, false, false, false, false, false, false, false, false, false, false, false, false, false, false, false, false] rfl rfl (any_of HT_.out (by kernel_rfl)) (fun _ _ _ h => h) (Or.inl ⟨by rfl, ?_⟩) ?_ ?_
      rotate_left
      · intro w'
        go_simp
        with_reducible rfl
      rotate_left
      · simp only [Act.put, List.setIfInBounds_toArray, List.set_cons_zero, List.set_cons_succ, i64_w, i32_w]
        rfl
      refine pure_ (i := 62) (N := some 210) (v := ?_) (a' := ?_) #[true, true, true, true, true, true, true, true, true, true, true, true, true, true, true, true, true, true, true, true, true, true, true, true, true, true, true, true, true, true, true, true, true, true, true, true, true, true, true, true, true, true, true, true, true, true, true, true, true, true, true, true, true, true, true, true, true, true, true, true, true, true, true, false, false, false, false, false, false, false, false, false, false, false, false, false, false, false, false, false, false, false, false, false, false, false] rfl rfl (any_of HT_.out (by kernel_rfl)) (fun _ _ _ h => h) (Or.inl ⟨by rfl, ?_⟩) ?_ ?_
      rotate_left
      · intro w'
        go_simp
        with_reducible rfl
      rotate_left
      · simp only [Act.put, List.setIfInBounds_toArray, List.set_cons_zero, List.set_cons_succ, i64_w, i32_w]
        rfl
      refine pure_ (i := 63) (N := some 211) (v := ?_) (a' := ?_) #[true, true, true, true, true, true, true, true, true, true, true, true, true, true, true, true, true, true, true, true, true, true, true, true, true, true, true, true, true, true, true, true, true, true, true, true, true, true, true, true, true, true, true, true, true, true, true, true, true, true, true, true, true, true, true, true, true, true, true, true, true, true, true, true, false, false, false, false, false, false, false, false, false, false, false, false, false, false, false, false, false, false, false, false, false, false] rfl rfl (any_of HT_.out (by kernel_rfl)) (fun _ _ _ h => h) (Or.inl ⟨by rfl, ?_⟩) ?_ ?_
      rotate_left
      · intro w'
        go_simp
        with_reducible rfl
      rotate_left
      · simp only [Act.put, List.setIfInBounds_toArray, List.set_cons_zero, List.set_cons_succ, i64_w, i32_w]
        rfl
      refine pure_ (i := 64) (N := some 212) (v := ?_) (a' := ?_) #[true, true, true, true, true, true, true, true, true, true, true, true, true, true, true, true, true, true, true, true, true, true, true, true, true, true, true, true, true, true, true, true, true, true, true, true, true, true, true, true, true, true, true, true, true, true, true, true, true, true, true, true, true, true, true, true, true, true, true, true, true, true, true, true, true, false, false, false, false, false, false, false, false, false, false, false, false, false, false, false, false, false, false, false, false, false] rfl rfl (any_of HT_.out (by kernel_rfl)) (fun _ _ _ h => h) (Or.inl ⟨by rfl, ?_⟩) ?_ ?_
      rotate_left
      · intro w'
        go_simp
        with_reducible rfl
      rotate_left
      · simp only [Act.put, List.setIfInBounds_toArray, List.set_cons_zero, List.set_cons_succ, i64_w, i32_w]
        rfl
      refine pure_ (i := 65) (N := some 213) (v := ?_) (a' := ?_) #[true, true, true, true, true, true, true, true, true, true, true, true, true, true, true, true, true, true, true, true, true, true, true, true, true, true, true, true, true, true, true, true, true, true, true, true, true, true, true, true, true, true, true, true, true, true, true, true, true, true, true, true, true, true, true, true, true, true, true, true, true, true, true, true, true, true, false, false, false, false, false, false, false, false, false, false, false, false, false, false, false, false, false, false, false, false] rfl rfl (any_of HT_.out (by kernel_rfl)) (fun _ _ _ h => h) (Or.inl ⟨by rfl, ?_⟩) ?_ ?_
      rotate_left
      · intro w'
        go_simp
        with_reducible rfl
      rotate_left
      · simp only [Act.put, List.setIfInBounds_toArray, List.set_cons_zero, List.set_cons_succ, i64_w, i32_w]
        rfl
      refine pure_ (i := 66) (N := some 214) (v := ?_) (a' := ?_) #[true, true, true, true, true, true, true, true, true, true, true, true, true, true, true, true, true, true, true, true, true, true, true, true, true, true, true, true, true, true, true, true, true, true, true, true, true, true, true, true, true, true, true, true, true, true, true, true, true, true, true, true, true, true, true, true, true, true, true, true, true, true, true, true, true, true, true, false, false, false, false, false, false, false, false, false, false, false, false, false, false, false, false, false, false, false] rfl rfl (any_of HT_.out (by kernel_rfl)) (fun _ _ _ h => h) (Or.inl ⟨by rfl, ?_⟩) ?_ ?_
      rotate_left
      · intro w'
        go_simp
        with_reducible rfl
      rotate_left
      · simp only [Act.put, List.setIfInBounds_toArray, List.set_cons_zero, List.set_cons_succ, i64_w, i32_w]
        rfl
      refine pure_ (i := 67) (N := some 215) (v := ?_) (a' := ?_) #[true, true, true, true, true, true, true, true, true, true, true, true, true, true, true, true, true, true, true, true, true, true, true, true, true, true, true, true, true, true, true, true, true, true, true, true, true, true, true, true, true, true, true, true, true, true, true, true, true, true, true, true, true, true, true, true, true, true, true, true, true, true, true, true, true, true, true, true, false, false, false, false, false, false, false, false, false, false, false, false, false, false, false, false, false, false] rfl rfl (any_of HT_.out (by kernel_rfl)) (fun _ _ _ h => h) (Or.inl ⟨by rfl, ?_⟩) ?_ ?_
      rotate_left
      · intro w'
        go_simp
        with_reducible rfl
      rotate_left
      · simp only [Act.put, List.setIfInBounds_toArray, List.set_cons_zero, List.set_cons_succ, i64_w, i32_w]
        rfl
      refine pure_ (i := 68) (N := some 216) (v := ?_) (a' := ?_) #[true, true, true, true, true, true, true, true, true, true, true, true, true, true, true, true, true, true, true, true, true, true, true, true, true, true, true, true, true, true, true, true, true, true, true, true, true, true, true, true, true, true, true, true, true, true, true, true, true, true, true, true, true, true, true, true, true, true, true, true, true, true, true, true, true, true, true, true, true, false, false, false, false, false, false, false, false, false, false, false, false, false, false, false, false, false] rfl rfl (any_of HT_.out (by kernel_rfl)) (fun _ _ _ h => h) (Or.inl ⟨by rfl, ?_⟩) ?_ ?_
      rotate_left
      · intro w'
        go_simp
        with_reducible rfl
      rotate_left
      · simp only [Act.put, List.setIfInBounds_toArray, List.set_cons_zero, List.set_cons_succ, i64_w, i32_w]
        rfl
      refine take_ (i := 69) (N := some 217) (v := ?_) (a' := ?_) #[true, true, true, true, true, true, true, true, true, true, true, true, true, true, true, true, true, true, true, true, true, true, true, true, true, true, true, true, true, true, true, true, true, true, true, true, true, true, true, true, true, true, true, true, true, true, true, true, true, true, true, true, true, true, true, true, true, true, true, true, true, true, true, true, true, true, true, true, true, true, false, false, false, false, false, false, false, false, false, false, false, false, false, false, false, false] rfl rfl (take_ofW HT_.out HW_.out (by kernel_rfl)) (fun _ _ _ h => h) (Or.inl ⟨by rfl, ?_⟩) hHeld ?_ ?_
      rotate_left
      · rintro w' ⟨s0, s1, s2, s3, s4⟩
        go_simp
        with_reducible rfl
      rotate_left
      · simp only [Act.put, List.setIfInBounds_toArray, List.set_cons_zero, List.set_cons_succ, i64_w, i32_w]
        rfl
      refine pure_ (i := 70) (N := some 218) (v := ?_) (a' := ?_) #[true, true, true, true, true, true, true, true, true, true, true, true, true, true, true, true, true, true, true, true, true, true, true, true, true, true, true, true, true, true, true, true, true, true, true, true, true, true, true, true, true, true, true, true, true, true, true, true, true, true, true, true, true, true, true, true, true, true, true, true, true, true, true, true, true, true, true, true, true, true, true, false, false, false, false, false, false, false, false, false, false, false, false, false, false, false] rfl rfl (any_of HT_.out (by kernel_rfl)) (fun _ _ _ h => h) (Or.inl ⟨by rfl, ?_⟩) ?_ ?_
      rotate_left
      · intro w'
        go_simp
        with_reducible rfl
      rotate_left
      · simp only [Act.put, List.setIfInBounds_toArray, List.set_cons_zero, List.set_cons_succ, i64_w, i32_w]
        rfl
      refine pure_ (i := 71) (N := some 219) (v := ?_) (a' := ?_) #[true, true, true, true, true, true, true, true, true, true, true, true, true, true, true, true, true, true, true, true, true, true, true, true, true, true, true, true, true, true, true, true, true, true, true, true, true, true, true, true, true, true, true, true, true, true, true, true, true, true, true, true, true, true, true, true, true, true, true, true, true, true, true, true, true, true, true, true, true, true, true, true, false, false, false, false, false, false, false, false, false, false, false, false, false, false] rfl rfl (any_of HT_.out (by kernel_rfl)) (fun _ _ _ h => h) (Or.inl ⟨by rfl, ?_⟩) ?_ ?_
      rotate_left
      · intro w'
        go_simp
        with_reducible rfl
      rotate_left
      · simp only [Act.put, List.setIfInBounds_toArray, List.set_cons_zero, List.set_cons_succ, i64_w, i32_w]
        rfl
      refine pure_ (i := 72) (N := some 220) (v := ?_) (a' := ?_) #[true, true, true, true, true, true, true, true, true, true, true, true, true, true, true, true, true, true, true, true, true, true, true, true, true, true, true, true, true, true, true, true, true, true, true, true, true, true, true, true, true, true, true, true, true, true, true, true, true, true, true, true, true, true, true, true, true, true, true, true, true, true, true, true, true, true, true, true, true, true, true, true, true, false, false, false, false, false, false, false, false, false, false, false, false, false] rfl rfl (any_of HT_.out (by kernel_rfl)) (fun _ _ _ h => h) (Or.inl ⟨by rfl, ?_⟩) ?_ ?_
      rotate_left
      · intro w'
        go_simp
        with_reducible rfl
      rotate_left
      · simp only [Act.put, List.setIfInBounds_toArray, List.set_cons_zero, List.set_cons_succ, i64_w, i32_w]
        rfl
      refine pure_ (i := 73) (N := some 221) (v := ?_) (a' := ?_) #[true, true, true, true, true, true, true, true, true, true, true, true, true, true, true, true, true, true, true, true, true, true, true, true, true, true, true, true, true, true, true, true, true, true, true, true, true, true, true, true, true, true, true, true, true, true, true, true, true, true, true, true, true, true, true, true, true, true, true, true, true, true, true, true, true, true, true, true, true, true, true, true, true, true, false, false, false, false, false, false, false, false, false, false, false, false] rfl rfl (any_of HT_.out (by kernel_rfl)) (fun _ _ _ h => h) (Or.inl ⟨by rfl, ?_⟩) ?_ ?_
      rotate_left
      · intro w'
        go_simp
        with_reducible rfl
      rotate_left
      · simp only [Act.put, List.setIfInBounds_toArray, List.set_cons_zero, List.set_cons_succ, i64_w, i32_w]
        rfl
      refine take_ (i := 74) (N := some 222) (v := ?_) (a' := ?_) #[true, true, true, true, true, true, true, true, true, true, true, true, true, true, true, true, true, true, true, true, true, true, true, true, true, true, true, true, true, true, true, true, true, true, true, true, true, true, true, true, true, true, true, true, true, true, true, true, true, true, true, true, true, true, true, true, true, true, true, true, true, true, true, true, true, true, true, true, true, true, true, true, true, true, true, false, false, false, false, false, false, false, false, false, false, false] rfl rfl (take_ofW HT_.out HW_.out (by kernel_rfl)) (fun _ _ _ h => h) (Or.inl ⟨by rfl, ?_⟩) hHeld ?_ ?_
      rotate_left
      · rintro w' ⟨s0, s1, s2, s3, s4⟩
        go_simp
        with_reducible rfl
      rotate_left
      · simp only [Act.put, List.setIfInBounds_toArray, List.set_cons_zero, List.set_cons_succ, i64_w, i32_w]
        rfl
      refine pure_ (i := 75) (N := some 223) (v := ?_) (a' := ?_) #[true, true, true, true, true, true, true, true, true, true, true, true, true, true, true, true, true, true, true, true, true, true, true, true, true, true, true, true, true, true, true, true, true, true, true, true, true, true, true, true, true, true, true, true, true, true, true, true, true, true, true, true, true, true, true, true, true, true, true, true, true, true, true, true, true, true, true, true, true, true, true, true, true, true, true, true, false, false, false, false, false, false, false, false, false, false] rfl rfl (any_of HT_.out (by kernel_rfl)) (fun _ _ _ h => h) (Or.inl ⟨by rfl, ?_⟩) ?_ ?_
      rotate_left
      · intro w'
        go_simp
        with_reducible rfl
      rotate_left
      · simp only [Act.put, List.setIfInBounds_toArray, List.set_cons_zero, List.set_cons_succ, i64_w, i32_w]
        rfl
      refine pure_ (i := 76) (N := some 224) (v := ?_) (a' := ?_) #[true, true, true, true, true, true, true, true, true, true, true, true, true, true, true, true, true, true, true, true, true, true, true, true, true, true, true, true, true, true, true, true, true, true, true, true, true, true, true, true, true, true, true, true, true, true, true, true, true, true, true, true, true, true, true, true, true, true, true, true, true, true, true, true, true, true, true, true, true, true, true, true, true, true, true, true, true, false, false, false, false, false, false, false, false, false] rfl rfl (any_of HT_.out (by kernel_rfl)) (fun _ _ _ h => h) (Or.inl ⟨by rfl, ?_⟩) ?_ ?_
      rotate_left
      · intro w'
        go_simp
        with_reducible rfl
      rotate_left
      · simp only [Act.put, List.setIfInBounds_toArray, List.set_cons_zero, List.set_cons_succ, i64_w, i32_w]
        rfl
      refine pure_ (i := 77) (N := some 225) (v := ?_) (a' := ?_) #[true, true, true, true, true, true, true, true, true, true, true, true, true, true, true, true, true, true, true, true, true, true, true, true, true, true, true, true, true, true, true, true, true, true, true, true, true, true, true, true, true, true, true, true, true, true, true, true, true, true, true, true, true, true, true, true, true, true, true, true, true, true, true, true, true, true, true, true, true, true, true, true, true, true, true, true, true, true, false, false, false, false, false, false, false, false] rfl rfl (any_of HT_.out (by kernel_rfl)) (fun _ _ _ h => h) (Or.inl ⟨by rfl, ?_⟩) ?_ ?_
      rotate_left
      · intro w'
        go_simp
        with_reducible rfl
      rotate_left
      · simp only [Act.put, List.setIfInBounds_toArray, List.set_cons_zero, List.set_cons_succ, i64_w, i32_w]
        rfl
      refine pure_ (i := 78) (N := some 226) (v := ?_) (a' := ?_) #[true, true, true, true, true, true, true, true, true, true, true, true, true, true, true, true, true, true, true, true, true, true, true, true, true, true, true, true, true, true, true, true, true, true, true, true, true, true, true, true, true, true, true, true, true, true, true, true, true, true, true, true, true, true, true, true, true, true, true, true, true, true, true, true, true, true, true, true, true, true, true, true, true, true, true, true, true, true, true, false, false, false, false, false, false, false] rfl rfl (any_of HT_.out (by kernel_rfl)) (fun _ _ _ h => h) (Or.inl ⟨by rfl, ?_⟩) ?_ ?_
      rotate_left
      · intro w'
        go_simp
        with_reducible rfl
      rotate_left
      · simp only [Act.put, List.setIfInBounds_toArray, List.set_cons_zero, List.set_cons_succ, i64_w, i32_w]
        rfl
      refine take_ (i := 79) (N := some 227) (v := ?_) (a' := ?_) #[true, true, true, true, true, true, true, true, true, true, true, true, true, true, true, true, true, true, true, true, true, true, true, true, true, true, true, true, true, true, true, true, true, true, true, true, true, true, true, true, true, true, true, true, true, true, true, true, true, true, true, true, true, true, true, true, true, true, true, true, true, true, true, true, true, true, true, true, true, true, true, true, true, true, true, true, true, true, true, true, false, false, false, false, false, false] rfl rfl (take_ofW HT_.out HW_.out (by kernel_rfl)) (fun _ _ _ h => h) (Or.inl ⟨by rfl, ?_⟩) hHeld ?_ ?_
      rotate_left
      · rintro w' ⟨s0, s1, s2, s3, s4⟩
        go_simp
        with_reducible rfl
      rotate_left
      · simp only [Act.put, List.setIfInBounds_toArray, List.set_cons_zero, List.set_cons_succ, i64_w, i32_w]
        rfl
      refine take_ (i := 80) (N := some 228) (v := ?_) (a' := ?_) #[true, true, true, true, true, true, true, true, true, true, true, true, true, true, true, true, true, true, true, true, true, true, true, true, true, true, true, true, true, true, true, true, true, true, true, true, true, true, true, true, true, true, true, true, true, true, true, true, true, true, true, true, true, true, true, true, true, true, true, true, true, true, true, true, true, true, true, true, true, true, true, true, true, true, true, true, true, true, true, true, true, false, false, false, false, false] rfl rfl (take_ofW HT_.out HW_.out (by kernel_rfl)) (fun _ _ _ h => h) (Or.inl ⟨by rfl, ?_⟩) hHeld ?_ ?_
      rotate_left
      · rintro w' ⟨s0, s1, s2, s3, s4⟩
        go_simp
        with_reducible rfl
      rotate_left
      · simp only [Act.put, List.setIfInBounds_toArray, List.set_cons_zero, List.set_cons_succ, i64_w, i32_w]
        rfl
      refine one_ (i := 81) (N := some 229) #[true, true, true, true, true, true, true, true, true, true, true, true, true, true, true, true, true, true, true, true, true, true, true, true, true, true, true, true, true, true, true, true, true, true, true, true, true, true, true, true, true, true, true, true, true, true, true, true, true, true, true, true, true, true, true, true, true, true, true, true, true, true, true, true, true, true, true, true, true, true, true, true, true, true, true, true, true, true, true, true, true, true, false, false, false, false] rfl rfl (one_of HT_.out (by kernel_rfl)) (by decide) (fun K hK => ?_)
      refine value_ (w1 := World.alloc w2272 (.cells #[.int .u8 0, .int .u8 255, .int .u8 255, .int .u8 255] 5 (0, 0))) (v := .slice (some ⟨w2272.heap.size, 0, none⟩) 4 4) (by rfl) rfl (by first | (go_simp; done) | (go_simp; rfl)) ?_
      obtain ⟨gx, w2279, hg_, hw_, hh_, hb_⟩ := new_blk w2272 #[.int .u8 0, .int .u8 255, .int .u8 255, .int .u8 255] 5
      rw [← hg_, ← hw_]
      have H2290 := Aside0.mk hh_
      have N2280 : g2248 ≠ gx := Nat.ne_of_lt (Nat.lt_of_lt_of_eq (blk_lt H2276.out) hg_.symm)
      have G2281 : w.heap.size ≤ gx := Nat.le_trans B2273.out.size (Nat.le_of_eq hg_.symm)
      have G2282 : w2243.heap.size ≤ gx := Nat.le_trans B2274.out.size (Nat.le_of_eq hg_.symm)
      have G2283 : w2245.heap.size ≤ gx := Nat.le_trans B2275.out.size (Nat.le_of_eq hg_.symm)
      have G2284 : w2272.heap.size ≤ gx := Nat.le_of_eq hg_.symm
      have B2285 := Aside0.mk (below_step B2273.out hb_)
      have B2286 := Aside0.mk (below_step B2274.out hb_)
      have B2287 := Aside0.mk (below_step B2275.out hb_)
      have B2288 := Aside0.mk (hb_)
      have H2289 := Aside0.mk (blk_below H2276.out hb_)
      clear hg_ hh_ hb_ B2273 B2274 B2275 H2276
      clear hw_
      refine hK.out _ _ ⟨(by rw [HSZ.out]; exact conv_of (c := c_rz) (Kd.C_below Rrz.out B2286.out)), ((blk_cell (i := 0) H2289.out).trans rfl), ((blk_cell (i := 1) H2289.out).trans rfl), ((blk_cell (i := 2) H2289.out).trans rfl), (by rw [HSY.out]; exact conv_of (c := c_ry) (Kd.C_below Rry.out B2287.out))⟩ (fun hHeld => ?_)
      clear hK K
      refine norm_ (a' := ?_) ?_ ?_
      rotate_left
      · show Act.put _ (some 229) _ = _
        simp only [Act.put, List.setIfInBounds_toArray, List.set_cons_zero, List.set_cons_succ, i64_w, i32_w]
        rfl
      refine one_ (i := 82) (N := some 230) #[true, true, true, true, true, true, true, true, true, true, true, true, true, true, true, true, true, true, true, true, true, true, true, true, true, true, true, true, true, true, true, true, true, true, true, true, true, true, true, true, true, true, true, true, true, true, true, true, true, true, true, true, true, true, true, true, true, true, true, true, true, true, true, true, true, true, true, true, true, true, true, true, true, true, true, true, true, true, true, true, true, true, true, false, false, false] rfl rfl (one_of HT_.out (by kernel_rfl)) (by decide) (fun K hK => ?_)
      refine value_ (w1 := w2279) (v := .string sy) (by rfl) rfl (conv_exec rfl rfl (by rw [HSY.out]; exact conv_of (c := 4) (ints_at (l := ([0, 255, 255, 255] : List Int)) H2290.out (by decide)))) ?_
      refine hK.out _ _ ⟨(by rw [HSZ.out]; exact conv_of (c := c_rz) (Kd.C_below Rrz.out B2286.out)), ((blk_cell (i := 0) H2289.out).trans rfl), ((blk_cell (i := 1) H2289.out).trans rfl), ((blk_cell (i := 2) H2289.out).trans rfl), (by rw [HSY.out]; exact conv_of (c := c_ry) (Kd.C_below Rry.out B2287.out))⟩ (fun hHeld => ?_)
      clear hK K
      refine norm_ (a' := ?_) ?_ ?_
      rotate_left
      · show Act.put _ (some 230) _ = _
        simp only [Act.put, List.setIfInBounds_toArray, List.set_cons_zero, List.set_cons_succ, i64_w, i32_w]
        rfl
      refine pure_ (i := 83) (N := some 231) (v := ?_) (a' := ?_) #[true, true, true, true, true, true, true, true, true, true, true, true, true, true, true, true, true, true, true, true, true, true, true, true, true, true, true, true, true, true, true, true, true, true, true, true, true, true, true, true, true, true, true, true, true, true, true, true, true, true, true, true, true, true, true, true, true, true, true, true, true, true, true, true, true, true, true, true, true, true, true, true, true, true, true, true, true, true, true, true, true, true, true, true, false, false] rfl rfl (any_of HT_.out (by kernel_rfl)) (fun _ _ _ h => h) (Or.inl ⟨by rfl, ?_⟩) ?_ ?_
      rotate_left
      · intro w'
        go_simp
        with_reducible rfl
      rotate_left
      · simp only [Act.put, List.setIfInBounds_toArray, List.set_cons_zero, List.set_cons_succ, i64_w, i32_w]
        rfl
      refine pure_ (i := 84) (N := some 232) (v := ?_) (a' := ?_) #[true, true, true, true, true, true, true, true, true, true, true, true, true, true, true, true, true, true, true, true, true, true, true, true, true, true, true, true, true, true, true, true, true, true, true, true, true, true, true, true, true, true, true, true, true, true, true, true, true, true, true, true, true, true, true, true, true, true, true, true, true, true, true, true, true, true, true, true, true, true, true, true, true, true, true, true, true, true, true, true, true, true, true, true, true, false] rfl rfl (any_of HT_.out (by kernel_rfl)) (fun _ _ _ h => h) (Or.inl ⟨by rfl, ?_⟩) ?_ ?_
      rotate_left
      · intro w'
        go_simp
        with_reducible rfl
      rotate_left
      · simp only [Act.put, List.setIfInBounds_toArray, List.set_cons_zero, List.set_cons_succ, i64_w, i32_w]
        rfl
      refine pure_ (i := 85) (N := some 0) (v := ?_) (a' := ?_) #[true, true, true, true, true, true, true, true, true, true, true, true, true, true, true, true, true, true, true, true, true, true, true, true, true, true, true, true, true, true, true, true, true, true, true, true, true, true, true, true, true, true, true, true, true, true, true, true, true, true, true, true, true, true, true, true, true, true, true, true, true, true, true, true, true, true, true, true, true, true, true, true, true, true, true, true, true, true, true, true, true, true, true, true, true, true] rfl rfl (any_of HT_.out (by kernel_rfl)) (fun _ _ _ h => h) (Or.inl ⟨by rfl, ?_⟩) ?_ ?_
      rotate_left
      · intro w'
        go_simp
        with_reducible rfl
      rotate_left
      · simp only [Act.put, List.setIfInBounds_toArray, List.set_cons_zero, List.set_cons_succ, i64_w, i32_w]
        rfl
      refine done_ (done_of HT_.out (by kernel_rfl)) ?_
      go_wp2_with fail
      go_ret
      exact ⟨rfl, B2285.out⟩
end Go.Proofs.Ytgapkifgddjijaa.Hx
