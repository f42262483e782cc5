/- DecoderNames answers true. Written by wip/c2/mkldnames.py. -/
import Derived.Test.YtgapkifgddjijaaHxDNames
import Derived.Test.YtgapkifgddjijaaQDx2
set_option linter.unusedSimpArgs false
set_option linter.unusedVariables false
namespace Go.Proofs.Ytgapkifgddjijaa.Hx
open Go Go.RowKit Go.Proofs.Ytgapkifgddjijaa.QD Go.Proofs.YtgapkifgddjijaaW.PrintWords Go.Proofs.YtgapkifgddjijaaW.PrintLast Go.Proofs.YtgapkifgddjijaaW.PrintMore
theorem nil8 (W : World) : Kd.C (Kd.int .u8) W none ([] : List Int).length [] := ⟨rfl, by decide, fun h => absurd h (by decide)⟩
theorem nil64 (W : World) : Kd.C (Kd.int .i64) W none ([] : List Int).length [] := ⟨rfl, by decide, fun h => absurd h (by decide)⟩
theorem chk_long (l : List Int) (h : l.length = 20001) : QE.decoder_Check.f 0 4294967295 0 l 4 = some 8 ∧ decoder_Check.f 0 4294967295 0 l 4 = some 8 := by
  constructor
  · unfold QE.decoder_Check.f
    rw [if_neg (by decide), if_neg (by decide), if_neg (by decide), if_neg (by decide), if_pos (by rw [h]; decide)]
  · unfold decoder_Check.f
    rw [if_neg (by decide), if_neg (by decide), if_neg (by decide), if_neg (by decide), if_pos (by rw [h]; decide)]
theorem get_long (l : List Int) (h : l.length = 20001) : decoder_Get.f 20 0 4294967295 0 l 4 (-1) = some (0, 0, 0, [], 0, false, 8) := by
  unfold decoder_Get.f Hand.Getf
  rw [(chk_long l h).1, Option.bind_some, if_neg (by decide)]
theorem over_long (l : List Int) (h : l.length = 20001) : decoder_Over.f 0 4294967295 0 l 4 = some (0, 8) := by
  unfold decoder_Over.f
  rw [(chk_long l h).2, Option.bind_some, if_neg (by decide)]
theorem new_long (l : List Int) (h : l.length = 20001) : decoder_New.f 20 l = some (0, 0, 0, [], 0, 4) := by
  unfold decoder_New.f Hand.Newf
  rw [if_pos (by omega)]
theorem run_long (l ps : List Int) (h : l.length = 20001) : decoder_Run.f 20 l ps = some ([], 4) := by
  unfold decoder_Run.f Hand.RunDf
  rw [if_pos (by omega)]
theorem run_many (ps : List Int) (h : ps.length = 2001) : decoder_Run.f 20 [] ps = some ([], 4) := by
  unfold decoder_Run.f Hand.RunDf
  rw [if_neg (by decide), if_pos (by omega)]
theorem dnames (w : World) : Calls Try.prog 14 #[] w fun e w' => e = .returned (.bool true) ∧ Below w.heap.size w w' := by
  have h1 : (List.replicate 20001 (0 : Int)).length = 20001 := List.length_replicate
  have h4 : (List.replicate 2001 (0 : Int)).length = 2001 := List.length_replicate
  refine dnames_walk w
    (fun W => decoder_Get.calls 20 0 0 0 none 0 [] 0 (-1) 0 0 0 [] 0 false 8 W (nil8 W) (Nat.le_refl 0) (by kernel_rfl)) (fun W => decoder_Over.calls 0 0 0 none 0 [] 0 0 8 W (nil8 W) (Nat.le_refl 0) (by decide +kernel)) (fun W => decoder_Check.calls 0 0 0 none 0 [] 0 8 W (nil8 W) (Nat.le_refl 0) (by decide +kernel))
    (fun W => decoder_Get.calls 20 5 4294967295 4 none 0 [] 4 (-1) 0 0 0 [] 0 false 8 W (nil8 W) (Nat.le_refl 0) (by kernel_rfl)) (fun W => decoder_Over.calls 5 4294967295 4 none 0 [] 4 0 8 W (nil8 W) (Nat.le_refl 0) (by decide +kernel)) (fun W => decoder_Check.calls 5 4294967295 4 none 0 [] 4 8 W (nil8 W) (Nat.le_refl 0) (by decide +kernel))
    (fun W => decoder_Get.calls 20 0 16777216 16777217 none 0 [] 4 (-1) 0 0 0 [] 0 false 8 W (nil8 W) (Nat.le_refl 0) (by kernel_rfl)) (fun W => decoder_Over.calls 0 16777216 16777217 none 0 [] 4 0 8 W (nil8 W) (Nat.le_refl 0) (by decide +kernel)) (fun W => decoder_Check.calls 0 16777216 16777217 none 0 [] 4 8 W (nil8 W) (Nat.le_refl 0) (by decide +kernel))
    (fun W => decoder_Get.calls 20 0 16777215 0 none 0 [] 4 (-1) 0 0 0 [] 0 false 8 W (nil8 W) (Nat.le_refl 0) (by kernel_rfl)) (fun W => decoder_Over.calls 0 16777215 0 none 0 [] 4 0 8 W (nil8 W) (Nat.le_refl 0) (by decide +kernel)) (fun W => decoder_Check.calls 0 16777215 0 none 0 [] 4 8 W (nil8 W) (Nat.le_refl 0) (by decide +kernel))
    (fun W => decoder_Get.calls 20 0 4294967295 0 none 0 [] 3 (-1) 0 0 0 [] 0 false 8 W (nil8 W) (Nat.le_refl 0) (by kernel_rfl)) (fun W => decoder_Over.calls 0 4294967295 0 none 0 [] 3 0 8 W (nil8 W) (Nat.le_refl 0) (by decide +kernel)) (fun W => decoder_Check.calls 0 4294967295 0 none 0 [] 3 8 W (nil8 W) (Nat.le_refl 0) (by decide +kernel))
    (fun W => decoder_Get.calls 20 0 4294967295 0 none 0 [] 1000001 (-1) 0 0 0 [] 0 false 8 W (nil8 W) (Nat.le_refl 0) (by kernel_rfl)) (fun W => decoder_Over.calls 0 4294967295 0 none 0 [] 1000001 0 8 W (nil8 W) (Nat.le_refl 0) (by decide +kernel)) (fun W => decoder_Check.calls 0 4294967295 0 none 0 [] 1000001 8 W (nil8 W) (Nat.le_refl 0) (by decide +kernel))
    ?_ ?_ ?_ ?_ (fun W A c hC hc => decoder_New.calls 20 A c [1, 2, 3, 4, 5] 0 4294967295 16909060 [1, 2, 3, 4, 5] 4 0 W hC hc (by decide +kernel))
    (fun W A c hC hc => decoder_Over.calls 0 4294967295 16909060 A c [1, 2, 3, 4, 5] 4 1 0 W hC hc (by decide +kernel))
    (fun W => decoder_Get.calls 20 0 4294967295 0 none 0 [] 4 4096 0 0 0 [] 0 false 2 W (nil8 W) (Nat.le_refl 0) (by kernel_rfl)) (fun W => decoder_Get.calls 20 0 4294967295 0 none 0 [] 4 (-1) 0 0 0 [] 0 false 2 W (nil8 W) (Nat.le_refl 0) (by kernel_rfl))
    (fun W => decoder_Get.calls 20 16777215 16777216 16777215 none 0 [] 999998 0 0 0 0 [] 0 false 4 W (nil8 W) (Nat.le_refl 0) (by kernel_rfl)) (fun W => decoder_Get.calls 20 16777215 16777216 16777215 none 0 [] 999996 0 0 4294967295 0 [] 1000000 true 0 W (nil8 W) (Nat.le_refl 0) (by kernel_rfl))
    ?_ ?_ (fun W A c hC hc => decoder_Run.calls 20 none 0 [] A c [4096] [] 2 W (nil8 W) (Nat.le_refl 0) hC hc (by decide +kernel)) (fun W => decoder_Run.calls 20 none 0 [] none 0 [] [] 0 W (nil8 W) (Nat.le_refl 0) (nil64 W) (Nat.le_refl 0) (by decide +kernel))
    (fun W => bitloftlaw21_alive.calls 20 true W (by decide +kernel))
  · intro W A c hC hc
    have := decoder_Get.calls 20 0 4294967295 0 A c (List.replicate 20001 0) 4 (-1) 0 0 0 [] 0 false 8 W (by rw [h1]; exact hC) (by rw [h1]; exact hc) (get_long _ h1)
    rw [h1] at this
    exact this
  · intro W A c hC hc
    have := decoder_Over.calls 0 4294967295 0 A c (List.replicate 20001 0) 4 0 8 W (by rw [h1]; exact hC) (by rw [h1]; exact hc) (over_long _ h1)
    rw [h1] at this
    exact this
  · intro W A c hC hc
    have := decoder_Check.calls 0 4294967295 0 A c (List.replicate 20001 0) 4 8 W (by rw [h1]; exact hC) (by rw [h1]; exact hc) (chk_long _ h1).2
    rw [h1] at this
    exact this
  · intro W A c hC hc
    have := decoder_New.calls 20 A c (List.replicate 20001 0) 0 0 0 [] 0 4 W (by rw [h1]; exact hC) (by rw [h1]; exact hc) (new_long _ h1)
    rw [h1] at this
    exact this
  · intro W A c B d hC hc hB hd
    have := decoder_Run.calls 20 A c (List.replicate 20001 0) B d [-1] [] 4 W (by rw [h1]; exact hC) (by rw [h1]; exact hc) hB hd (run_long _ _ h1)
    rw [h1] at this
    exact this
  · intro W A c hC hc
    have := decoder_Run.calls 20 none 0 [] A c (List.replicate 2001 0) [] 4 W (nil8 W) (Nat.le_refl 0) (by rw [h4]; exact hC) (by rw [h4]; exact hc) (run_many _ h4)
    rw [h4] at this
    exact this
end Go.Proofs.Ytgapkifgddjijaa.Hx
