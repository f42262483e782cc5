/- Stores of whole structs and arrays of whole numbers, as the walk's simp runs them. Written by wip/s1/mkstores.py. -/
import Derived.Test.YtbldecdipicddaaDoorHKit
namespace Go.Proofs.YtbldecdipicddaaDoor
open Go.Proofs.YtbldecdipicddaaDoor.Hand Go Go.RowKit Go.Proofs.YtbldecdipicddaaDoorW.PrintWords Go.Proofs.YtbldecdipicddaaDoorW.PrintLast Go.Proofs.YtbldecdipicddaaDoorW.PrintMore
theorem run_loadVar_25_0 {g : Nat} {k0 k1 k2 k3 k4 k5 k6 k7 k8 k9 k10 k11 k12 k13 k14 k15 k16 k17 k18 k19 k20 k21 k22 k23 k24 : IntKind} {n0 n1 n2 n3 n4 n5 n6 n7 n8 n9 n10 n11 n12 n13 n14 n15 n16 n17 n18 n19 n20 n21 n22 n23 n24 : Int} {w : World} (c0 : w.cell? ⟨g, 0, none⟩ = some (.int k0 n0)) (c1 : w.cell? ⟨g, 1, none⟩ = some (.int k1 n1)) (c2 : w.cell? ⟨g, 2, none⟩ = some (.int k2 n2)) (c3 : w.cell? ⟨g, 3, none⟩ = some (.int k3 n3)) (c4 : w.cell? ⟨g, 4, none⟩ = some (.int k4 n4)) (c5 : w.cell? ⟨g, 5, none⟩ = some (.int k5 n5)) (c6 : w.cell? ⟨g, 6, none⟩ = some (.int k6 n6)) (c7 : w.cell? ⟨g, 7, none⟩ = some (.int k7 n7)) (c8 : w.cell? ⟨g, 8, none⟩ = some (.int k8 n8)) (c9 : w.cell? ⟨g, 9, none⟩ = some (.int k9 n9)) (c10 : w.cell? ⟨g, 10, none⟩ = some (.int k10 n10)) (c11 : w.cell? ⟨g, 11, none⟩ = some (.int k11 n11)) (c12 : w.cell? ⟨g, 12, none⟩ = some (.int k12 n12)) (c13 : w.cell? ⟨g, 13, none⟩ = some (.int k13 n13)) (c14 : w.cell? ⟨g, 14, none⟩ = some (.int k14 n14)) (c15 : w.cell? ⟨g, 15, none⟩ = some (.int k15 n15)) (c16 : w.cell? ⟨g, 16, none⟩ = some (.int k16 n16)) (c17 : w.cell? ⟨g, 17, none⟩ = some (.int k17 n17)) (c18 : w.cell? ⟨g, 18, none⟩ = some (.int k18 n18)) (c19 : w.cell? ⟨g, 19, none⟩ = some (.int k19 n19)) (c20 : w.cell? ⟨g, 20, none⟩ = some (.int k20 n20)) (c21 : w.cell? ⟨g, 21, none⟩ = some (.int k21 n21)) (c22 : w.cell? ⟨g, 22, none⟩ = some (.int k22 n22)) (c23 : w.cell? ⟨g, 23, none⟩ = some (.int k23 n23)) (c24 : w.cell? ⟨g, 24, none⟩ = some (.int k24 n24)) :
    (loadVar 25 ⟨g, 0, none⟩).run Tryd.prog w = .ok (.agg #[.int k0 n0, .int k1 n1, .int k2 n2, .int k3 n3, .int k4 n4, .int k5 n5, .int k6 n6, .int k7 n7, .int k8 n8, .int k9 n9, .int k10 n10, .int k11 n11, .int k12 n12, .int k13 n13, .int k14 n14, .int k15 n15, .int k16 n16, .int k17 n17, .int k18 n18, .int k19 n19, .int k20 n20, .int k21 n21, .int k22 n22, .int k23 n23, .int k24 n24]) w := by
  refine loadVar_list (P := Tryd.prog) w 25 g 0 [.int k0 n0, .int k1 n1, .int k2 n2, .int k3 n3, .int k4 n4, .int k5 n5, .int k6 n6, .int k7 n7, .int k8 n8, .int k9 n9, .int k10 n10, .int k11 n11, .int k12 n12, .int k13 n13, .int k14 n14, .int k15 n15, .int k16 n16, .int k17 n17, .int k18 n18, .int k19 n19, .int k20 n20, .int k21 n21, .int k22 n22, .int k23 n23, .int k24 n24] (by kernel_rfl) (by kernel_rfl) (fun j v hj => ?_)
  match j, hj with
  | 0, hj => exact (Option.some.inj hj) ▸ c0
  | 1, hj => exact (Option.some.inj hj) ▸ c1
  | 2, hj => exact (Option.some.inj hj) ▸ c2
  | 3, hj => exact (Option.some.inj hj) ▸ c3
  | 4, hj => exact (Option.some.inj hj) ▸ c4
  | 5, hj => exact (Option.some.inj hj) ▸ c5
  | 6, hj => exact (Option.some.inj hj) ▸ c6
  | 7, hj => exact (Option.some.inj hj) ▸ c7
  | 8, hj => exact (Option.some.inj hj) ▸ c8
  | 9, hj => exact (Option.some.inj hj) ▸ c9
  | 10, hj => exact (Option.some.inj hj) ▸ c10
  | 11, hj => exact (Option.some.inj hj) ▸ c11
  | 12, hj => exact (Option.some.inj hj) ▸ c12
  | 13, hj => exact (Option.some.inj hj) ▸ c13
  | 14, hj => exact (Option.some.inj hj) ▸ c14
  | 15, hj => exact (Option.some.inj hj) ▸ c15
  | 16, hj => exact (Option.some.inj hj) ▸ c16
  | 17, hj => exact (Option.some.inj hj) ▸ c17
  | 18, hj => exact (Option.some.inj hj) ▸ c18
  | 19, hj => exact (Option.some.inj hj) ▸ c19
  | 20, hj => exact (Option.some.inj hj) ▸ c20
  | 21, hj => exact (Option.some.inj hj) ▸ c21
  | 22, hj => exact (Option.some.inj hj) ▸ c22
  | 23, hj => exact (Option.some.inj hj) ▸ c23
  | 24, hj => exact (Option.some.inj hj) ▸ c24
  | j + 25, hj => simp at hj
theorem run_loadVar_23_0 {g : Nat} {k0 k1 k2 k3 k4 k5 k6 k7 k8 k9 k10 k11 k12 k13 k14 k15 k16 k17 k18 k19 : IntKind} {n0 n1 n2 n3 n4 n5 n6 n7 n8 n9 n10 n11 n12 n13 n14 n15 n16 n17 n18 n19 : Int} {w : World} (c0 : w.cell? ⟨g, 0, none⟩ = some (.int k0 n0)) (c1 : w.cell? ⟨g, 1, none⟩ = some (.int k1 n1)) (c2 : w.cell? ⟨g, 2, none⟩ = some (.int k2 n2)) (c3 : w.cell? ⟨g, 3, none⟩ = some (.int k3 n3)) (c4 : w.cell? ⟨g, 4, none⟩ = some (.int k4 n4)) (c5 : w.cell? ⟨g, 5, none⟩ = some (.int k5 n5)) (c6 : w.cell? ⟨g, 6, none⟩ = some (.int k6 n6)) (c7 : w.cell? ⟨g, 7, none⟩ = some (.int k7 n7)) (c8 : w.cell? ⟨g, 8, none⟩ = some (.int k8 n8)) (c9 : w.cell? ⟨g, 9, none⟩ = some (.int k9 n9)) (c10 : w.cell? ⟨g, 10, none⟩ = some (.int k10 n10)) (c11 : w.cell? ⟨g, 11, none⟩ = some (.int k11 n11)) (c12 : w.cell? ⟨g, 12, none⟩ = some (.int k12 n12)) (c13 : w.cell? ⟨g, 13, none⟩ = some (.int k13 n13)) (c14 : w.cell? ⟨g, 14, none⟩ = some (.int k14 n14)) (c15 : w.cell? ⟨g, 15, none⟩ = some (.int k15 n15)) (c16 : w.cell? ⟨g, 16, none⟩ = some (.int k16 n16)) (c17 : w.cell? ⟨g, 17, none⟩ = some (.int k17 n17)) (c18 : w.cell? ⟨g, 18, none⟩ = some (.int k18 n18)) (c19 : w.cell? ⟨g, 19, none⟩ = some (.int k19 n19)) :
    (loadVar 23 ⟨g, 0, none⟩).run Tryd.prog w = .ok (.agg #[.int k0 n0, .int k1 n1, .int k2 n2, .int k3 n3, .int k4 n4, .int k5 n5, .int k6 n6, .int k7 n7, .int k8 n8, .int k9 n9, .int k10 n10, .int k11 n11, .int k12 n12, .int k13 n13, .int k14 n14, .int k15 n15, .int k16 n16, .int k17 n17, .int k18 n18, .int k19 n19]) w := by
  refine loadVar_list (P := Tryd.prog) w 23 g 0 [.int k0 n0, .int k1 n1, .int k2 n2, .int k3 n3, .int k4 n4, .int k5 n5, .int k6 n6, .int k7 n7, .int k8 n8, .int k9 n9, .int k10 n10, .int k11 n11, .int k12 n12, .int k13 n13, .int k14 n14, .int k15 n15, .int k16 n16, .int k17 n17, .int k18 n18, .int k19 n19] (by kernel_rfl) (by kernel_rfl) (fun j v hj => ?_)
  match j, hj with
  | 0, hj => exact (Option.some.inj hj) ▸ c0
  | 1, hj => exact (Option.some.inj hj) ▸ c1
  | 2, hj => exact (Option.some.inj hj) ▸ c2
  | 3, hj => exact (Option.some.inj hj) ▸ c3
  | 4, hj => exact (Option.some.inj hj) ▸ c4
  | 5, hj => exact (Option.some.inj hj) ▸ c5
  | 6, hj => exact (Option.some.inj hj) ▸ c6
  | 7, hj => exact (Option.some.inj hj) ▸ c7
  | 8, hj => exact (Option.some.inj hj) ▸ c8
  | 9, hj => exact (Option.some.inj hj) ▸ c9
  | 10, hj => exact (Option.some.inj hj) ▸ c10
  | 11, hj => exact (Option.some.inj hj) ▸ c11
  | 12, hj => exact (Option.some.inj hj) ▸ c12
  | 13, hj => exact (Option.some.inj hj) ▸ c13
  | 14, hj => exact (Option.some.inj hj) ▸ c14
  | 15, hj => exact (Option.some.inj hj) ▸ c15
  | 16, hj => exact (Option.some.inj hj) ▸ c16
  | 17, hj => exact (Option.some.inj hj) ▸ c17
  | 18, hj => exact (Option.some.inj hj) ▸ c18
  | 19, hj => exact (Option.some.inj hj) ▸ c19
  | j + 20, hj => simp at hj
theorem run_loadVar_42_0 {g : Nat} {k0 k1 k2 k3 k4 : IntKind} {n0 n1 n2 n3 n4 : Int} {w : World} (c0 : w.cell? ⟨g, 0, none⟩ = some (.int k0 n0)) (c1 : w.cell? ⟨g, 1, none⟩ = some (.int k1 n1)) (c2 : w.cell? ⟨g, 2, none⟩ = some (.int k2 n2)) (c3 : w.cell? ⟨g, 3, none⟩ = some (.int k3 n3)) (c4 : w.cell? ⟨g, 4, none⟩ = some (.int k4 n4)) :
    (loadVar 42 ⟨g, 0, none⟩).run Tryd.prog w = .ok (.agg #[.int k0 n0, .int k1 n1, .int k2 n2, .int k3 n3, .int k4 n4]) w := by
  refine loadVar_list (P := Tryd.prog) w 42 g 0 [.int k0 n0, .int k1 n1, .int k2 n2, .int k3 n3, .int k4 n4] (by kernel_rfl) (by kernel_rfl) (fun j v hj => ?_)
  match j, hj with
  | 0, hj => exact (Option.some.inj hj) ▸ c0
  | 1, hj => exact (Option.some.inj hj) ▸ c1
  | 2, hj => exact (Option.some.inj hj) ▸ c2
  | 3, hj => exact (Option.some.inj hj) ▸ c3
  | 4, hj => exact (Option.some.inj hj) ▸ c4
  | j + 5, hj => simp at hj
theorem run_loadVar_98_0 {g : Nat} {k0 k1 k2 k3 k4 : IntKind} {n0 n1 n2 n3 n4 : Int} {w : World} (c0 : w.cell? ⟨g, 0, none⟩ = some (.int k0 n0)) (c1 : w.cell? ⟨g, 1, none⟩ = some (.int k1 n1)) (c2 : w.cell? ⟨g, 2, none⟩ = some (.int k2 n2)) (c3 : w.cell? ⟨g, 3, none⟩ = some (.int k3 n3)) (c4 : w.cell? ⟨g, 4, none⟩ = some (.int k4 n4)) :
    (loadVar 98 ⟨g, 0, none⟩).run Tryd.prog w = .ok (.agg #[.int k0 n0, .int k1 n1, .int k2 n2, .int k3 n3, .int k4 n4]) w := by
  refine loadVar_list (P := Tryd.prog) w 98 g 0 [.int k0 n0, .int k1 n1, .int k2 n2, .int k3 n3, .int k4 n4] (by kernel_rfl) (by kernel_rfl) (fun j v hj => ?_)
  match j, hj with
  | 0, hj => exact (Option.some.inj hj) ▸ c0
  | 1, hj => exact (Option.some.inj hj) ▸ c1
  | 2, hj => exact (Option.some.inj hj) ▸ c2
  | 3, hj => exact (Option.some.inj hj) ▸ c3
  | 4, hj => exact (Option.some.inj hj) ▸ c4
  | j + 5, hj => simp at hj
theorem run_loadVar_74_0 {g : Nat} {k0 k1 k2 k3 : IntKind} {n0 n1 n2 n3 : Int} {w : World} (c0 : w.cell? ⟨g, 0, none⟩ = some (.int k0 n0)) (c1 : w.cell? ⟨g, 1, none⟩ = some (.int k1 n1)) (c2 : w.cell? ⟨g, 2, none⟩ = some (.int k2 n2)) (c3 : w.cell? ⟨g, 3, none⟩ = some (.int k3 n3)) :
    (loadVar 74 ⟨g, 0, none⟩).run Tryd.prog w = .ok (.agg #[.int k0 n0, .int k1 n1, .int k2 n2, .int k3 n3]) w := by
  refine loadVar_list (P := Tryd.prog) w 74 g 0 [.int k0 n0, .int k1 n1, .int k2 n2, .int k3 n3] (by kernel_rfl) (by kernel_rfl) (fun j v hj => ?_)
  match j, hj with
  | 0, hj => exact (Option.some.inj hj) ▸ c0
  | 1, hj => exact (Option.some.inj hj) ▸ c1
  | 2, hj => exact (Option.some.inj hj) ▸ c2
  | 3, hj => exact (Option.some.inj hj) ▸ c3
  | j + 4, hj => simp at hj

end Go.Proofs.YtbldecdipicddaaDoor
