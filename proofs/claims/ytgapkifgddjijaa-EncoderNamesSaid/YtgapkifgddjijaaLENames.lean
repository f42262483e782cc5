/- EncoderNames answers true. -/
import Derived.Test.YtgapkifgddjijaaHxENames
import Derived.Test.YtgapkifgddjijaaQBx6
import Derived.Test.YtgapkifgddjijaaEncAlive
set_option linter.unusedSimpArgs false
set_option linter.unusedVariables false
namespace Go.Proofs.Ytgapkifgddjijaa.Hx
open Go Go.RowKit Go.Proofs.Ytgapkifgddjijaa.QB Go.Proofs.YtgapkifgddjijaaW.PrintWords Go.Proofs.YtgapkifgddjijaaW.PrintLast Go.Proofs.YtgapkifgddjijaaW.PrintMore
theorem drewn_bel {e : Ending} {w w' : World} {v : Value} (h : e = .returned v ∧ Drawn0 w w') : e = .returned v ∧ Below w.heap.size w w' := ⟨h.1, by obtain ⟨m, hm⟩ := h.2; rw [hm]; exact pw_below_drewN (Below.refl _ _) m⟩
theorem nil8 (W : World) : Kd.C (Kd.int .u8) W none ([] : List Int).length [] := ⟨rfl, by decide, fun h => absurd h (by decide)⟩
theorem nil64 (W : World) : Kd.C (Kd.int .i64) W none ([] : List Int).length [] := ⟨rfl, by decide, fun h => absurd h (by decide)⟩
theorem nilB (W : World) : Kd.C Kd.bool W none ([] : List Bool).length [] := ⟨rfl, by decide, fun h => absurd h (by decide)⟩
theorem chk_bad (l : List Int) (h : l.length = 20001) : QE.encoder_Check.f 0 4294967295 l = some 8 ∧ encoder_Check.f 0 4294967295 l = some 8 := by
  constructor
  · unfold QE.encoder_Check.f
    rw [if_neg (by decide), if_neg (by decide), if_pos (by rw [h]; decide)]
  · unfold encoder_Check.f
    rw [if_neg (by decide), if_neg (by decide), if_pos (by rw [h]; decide)]
theorem put_bad (l : List Int) (h : l.length = 20001) : encoder_Put.f 10 0 4294967295 l (-1) true = some (0, 0, [], 8) := by
  unfold encoder_Put.f Hand.Putf
  rw [(chk_bad l h).1, Option.bind_some, if_neg (by decide)]
theorem end_bad (l : List Int) (h : l.length = 20001) : encoder_End.f 0 4294967295 l = some ([], 8) := by
  unfold encoder_End.f
  rw [(chk_bad l h).2, Option.bind_some, if_neg (by decide)]
theorem chk_full (l : List Int) (h : l.length = 20000) : QE.encoder_Check.f 16777215 16777216 l = some 0 ∧ encoder_Check.f 16777215 16777216 l = some 0 := by
  constructor
  · unfold QE.encoder_Check.f
    rw [if_neg (by decide), if_neg (by decide), if_neg (by rw [h]; decide)]
  · unfold encoder_Check.f
    rw [if_neg (by decide), if_neg (by decide), if_neg (by rw [h]; decide)]
theorem putl_one (k : Nat) (x1 x2 : Int) (l : List Int) (h : x1 / 16777216 = x2 / 16777216) (hl : l.length < 140737488355328) : Hand.putl (k + 1) x1 x2 l = Hand.putl k (x1 * 256 % 4294967296) (Go.bits .or .u32 (x2 * 256 % 4294967296) 255) (l ++ [x2 / 16777216 % 256]) := by
  rw [Hand.putl, if_pos h, if_pos hl]
theorem putl_end (k : Nat) (x1 x2 : Int) (l : List Int) (h : ¬ x1 / 16777216 = x2 / 16777216) : Hand.putl (k + 1) x1 x2 l = some (x1, x2, l) := by
  rw [Hand.putl, if_neg h]
theorem put_any (l : List Int) (h : l.length ≤ 20000) : ∃ a b r, Hand.putf 10 16777215 16777216 0 true l = some (a, b, r) ∧ r.length = l.length + 4 := by
  unfold Hand.putf
  rw [if_pos rfl, show Hand.splitf 16777215 16777216 0 = 16777215 from by decide +kernel]
  rw [putl_one 9 16777215 16777215 l (by decide) (by omega)]
  rw [show (16777215 : Int) * 256 % 4294967296 = 4294967040 from by decide, show Go.bits .or .u32 (4294967040 : Int) 255 = 4294967295 from by decide +kernel]
  rw [putl_one 8 4294967040 4294967295 _ (by decide) (by rw [List.length_append, List.length_singleton]; omega)]
  rw [show (4294967040 : Int) * 256 % 4294967296 = 4294901760 from by decide, show (4294967295 : Int) * 256 % 4294967296 = 4294967040 from by decide, show Go.bits .or .u32 (4294967040 : Int) 255 = 4294967295 from by decide +kernel]
  rw [putl_one 7 4294901760 4294967295 _ (by decide) (by rw [List.length_append, List.length_append, List.length_singleton, List.length_singleton]; omega)]
  rw [show (4294901760 : Int) * 256 % 4294967296 = 4278190080 from by decide, show (4294967295 : Int) * 256 % 4294967296 = 4294967040 from by decide, show Go.bits .or .u32 (4294967040 : Int) 255 = 4294967295 from by decide +kernel]
  rw [putl_one 6 4278190080 4294967295 _ (by decide) (by simp only [List.length_append, List.length_singleton]; omega)]
  rw [show (4278190080 : Int) * 256 % 4294967296 = 0 from by decide, show (4294967295 : Int) * 256 % 4294967296 = 4294967040 from by decide, show Go.bits .or .u32 (4294967040 : Int) 255 = 4294967295 from by decide +kernel]
  rw [putl_end 5 0 4294967295 _ (by decide)]
  exact ⟨_, _, _, rfl, by simp only [List.length_append, List.length_singleton]⟩
theorem put_full (l : List Int) (h : l.length = 20000) : encoder_Put.f 10 16777215 16777216 l 0 true = some (0, 0, [], 4) := by
  obtain ⟨a, b, r, hp, hr⟩ := put_any l (by omega)
  unfold encoder_Put.f Hand.Putf
  rw [(chk_full l h).1, Option.bind_some, if_pos rfl, show QE.encoder_prob.f 0 = some true from by decide +kernel, Option.bind_some, if_pos rfl, if_pos (by omega), hp, Option.bind_some, if_pos (by show (r.length : Int) > 20000; omega)]
theorem end_full (l : List Int) (h : l.length = 20000) : encoder_End.f 16777215 16777216 l = some ([], 4) := by
  unfold encoder_End.f
  rw [(chk_full l h).2, Option.bind_some, if_pos rfl, if_pos (by rw [h]; decide)]
theorem end_near (l : List Int) (h : l.length = 19996) : ∃ r : List Int, r.length = 20000 ∧ encoder_End.f 0 4294967295 l = some (r, 0) := by
  refine ⟨l ++ [(0 / 16777216) % 256, (0 / 65536) % 256, (0 / 256) % 256, 0 % 256], by rw [List.length_append, h]; rfl, ?_⟩
  have hc : encoder_Check.f 0 4294967295 l = some 0 := by
    unfold encoder_Check.f
    rw [if_neg (by decide), if_neg (by decide), if_neg (by rw [h]; decide)]
  unfold encoder_End.f
  rw [hc, Option.bind_some, if_pos rfl, if_neg (by rw [h]; decide)]
  unfold encoder_end.f slices_Clone_byte_byte.f
  rw [if_pos (by omega), Option.bind_some, Option.bind_some, if_pos (by rw [h]; decide), Option.bind_some]
theorem run_long : encoder_Run.f 20 (List.replicate 3 0) (List.replicate 2001 false) = some ([], 4) := by
  unfold encoder_Run.f Hand.Runf
  rw [if_pos (by rw [List.length_replicate]; decide)]
theorem enames (w : World) : Calls Try.prog 12 #[] w fun e w' => e = .returned (.bool true) ∧ Below w.heap.size w w' := by
  have h1 : (List.replicate 20001 (0 : Int)).length = 20001 := List.length_replicate
  have h2 : (List.replicate 20000 (0 : Int)).length = 20000 := List.length_replicate
  have h3 : (List.replicate 19996 (0 : Int)).length = 19996 := List.length_replicate
  have h4 : (List.replicate 2001 false).length = 2001 := List.length_replicate
  obtain ⟨ne, hne, hen⟩ := end_near (List.replicate 19996 0) h3
  refine enames_walk w ne hne
    (fun W => encoder_Put.calls 10 0 0 none 0 [] (-1) true 0 0 [] 8 W (nil8 W) (Nat.le_refl 0) (by decide +kernel)) (fun W => encoder_End.calls 0 0 none 0 [] [] 8 W (nil8 W) (Nat.le_refl 0) (by decide +kernel)) (fun W => encoder_Check.calls 0 0 none 0 [] 8 W (nil8 W) (Nat.le_refl 0) (by decide +kernel))
    (fun W => encoder_Put.calls 10 5 5 none 0 [] (-1) true 0 0 [] 8 W (nil8 W) (Nat.le_refl 0) (by decide +kernel)) (fun W => encoder_End.calls 5 5 none 0 [] [] 8 W (nil8 W) (Nat.le_refl 0) (by decide +kernel)) (fun W => encoder_Check.calls 5 5 none 0 [] 8 W (nil8 W) (Nat.le_refl 0) (by decide +kernel))
    (fun W => encoder_Put.calls 10 5 6 none 0 [] (-1) true 0 0 [] 8 W (nil8 W) (Nat.le_refl 0) (by decide +kernel)) (fun W => encoder_End.calls 5 6 none 0 [] [] 8 W (nil8 W) (Nat.le_refl 0) (by decide +kernel)) (fun W => encoder_Check.calls 5 6 none 0 [] 8 W (nil8 W) (Nat.le_refl 0) (by decide +kernel))
    (fun W => encoder_Put.calls 10 16777216 16777215 none 0 [] (-1) true 0 0 [] 8 W (nil8 W) (Nat.le_refl 0) (by decide +kernel)) (fun W => encoder_End.calls 16777216 16777215 none 0 [] [] 8 W (nil8 W) (Nat.le_refl 0) (by decide +kernel)) (fun W => encoder_Check.calls 16777216 16777215 none 0 [] 8 W (nil8 W) (Nat.le_refl 0) (by decide +kernel))
    ?_ ?_ ?_ (fun W => encoder_New.calls 0 4294967295 [] W rfl)
    (fun W A c hC hc => encoder_Put.calls 10 0 4294967295 A c [] 4096 true 0 0 [] 2 W hC hc (by decide +kernel)) (fun W A c hC hc => encoder_Put.calls 10 0 4294967295 A c [] (-1) true 0 0 [] 2 W hC hc (by decide +kernel))
    (fun W => (encoder_Split.calls 6 6 1 0 2 W (by decide +kernel)).mono (fun e w' h => drewn_bel h)) (fun W => (encoder_Split.calls 7 6 1 0 2 W (by decide +kernel)).mono (fun e w' h => drewn_bel h)) (fun W => (encoder_Split.calls 0 1 4096 0 2 W (by decide +kernel)).mono (fun e w' h => drewn_bel h))
    ?_ ?_ ?_ ?_
    (fun W A c B d hA hc hB hd => encoder_Run.calls 20 A c (List.replicate 3 0) B d (List.replicate 2 false) [] 2 W hA hc hB hd (by decide +kernel)) (fun W A c B d hA hc hB hd => encoder_Run.calls 20 A c [4096] B d (List.replicate 1 false) [] 2 W hA hc hB hd (by decide +kernel))
    (fun W => encoder_Run.calls 20 none 0 [] none 0 [] (List.replicate 4 0) 0 W (nil64 W) (Nat.le_refl 0) (nilB W) (Nat.le_refl 0) (by decide +kernel))
    (fun W => encoder_Put.calls 10 16777215 16777216 none 0 [] 0 true 0 4294967295 [0, 255, 255, 255] 0 W (nil8 W) (Nat.le_refl 0) (by decide +kernel))
    (fun W => bitloftlaw20_alive.calls 20 true W (Enc.alive20 (Nat.le_refl 20)))
  · intro W A c hC hc
    have := encoder_Put.calls 10 0 4294967295 A c (List.replicate 20001 0) (-1) true 0 0 [] 8 W (by rw [h1]; exact hC) (by rw [h1]; exact hc) (put_bad _ h1)
    rw [h1] at this
    exact this
  · intro W A c hC hc
    have := encoder_End.calls 0 4294967295 A c (List.replicate 20001 0) [] 8 W (by rw [h1]; exact hC) (by rw [h1]; exact hc) (end_bad _ h1)
    rw [h1] at this
    exact this
  · intro W A c hC hc
    have := encoder_Check.calls 0 4294967295 A c (List.replicate 20001 0) 8 W (by rw [h1]; exact hC) (by rw [h1]; exact hc) (chk_bad _ h1).2
    rw [h1] at this
    exact this
  · intro W A c hC hc
    have := encoder_Put.calls 10 16777215 16777216 A c (List.replicate 20000 0) 0 true 0 0 [] 4 W (by rw [h2]; exact hC) (by rw [h2]; exact hc) (put_full _ h2)
    rw [h2] at this
    exact this
  · intro W A c hC hc
    have := encoder_End.calls 16777215 16777216 A c (List.replicate 20000 0) [] 4 W (by rw [h2]; exact hC) (by rw [h2]; exact hc) (end_full _ h2)
    rw [h2] at this
    exact this
  · intro W A c hC hc
    have := encoder_End.calls 0 4294967295 A c (List.replicate 19996 0) ne 0 W (by rw [h3]; exact hC) (by rw [h3]; exact hc) hen
    rw [h3] at this
    exact this
  · intro W A c B d hA hc hB hd
    have := encoder_Run.calls 20 A c (List.replicate 3 0) B d (List.replicate 2001 false) [] 4 W hA hc (by rw [h4]; exact hB) (by rw [h4]; exact hd) run_long
    rw [h4] at this
    exact this
end Go.Proofs.Ytgapkifgddjijaa.Hx
