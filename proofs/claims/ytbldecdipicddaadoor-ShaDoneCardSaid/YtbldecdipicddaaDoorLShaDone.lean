/- ShaDone answers true, for every string of bytes. -/
import Derived.Test.YtbldecdipicddaaDoorHShaDone
set_option linter.unusedSimpArgs false
set_option linter.unusedVariables false
namespace Go.Proofs.YtbldecdipicddaaDoor.Hand
open Go Go.RowKit Go.Proofs.YtbldecdipicddaaDoorW.PrintWords Go.Proofs.YtbldecdipicddaaDoorW.PrintMore
theorem foldb_doW : ∀ (M : Nat) (h : W5) (l : List Int), l.length = 64 * M → (∀ z ∈ l, 0 ≤ z ∧ z < 256) → fold64b doW M h l = fold64 doW M h l
  | 0, h, l, _, _ => by rw [fold64b, fold64]
  | M + 1, h, l, hl, hb => by
    have e : doW h (l.take 64) = doW h l := by
      rw [show doW h (l.take 64) = doneW h (l.take 64) from do_done _ _ _ _ _ _ (by rw [List.length_take]; omega) (fun z hz => hb z (List.mem_of_mem_take hz)), done_take]
      exact (do_done _ _ _ _ _ l (by omega) hb).symm
    rw [fold64b, fold64, e]
    exact foldb_doW M _ _ (by rw [List.length_drop]; omega) (fun z hz => hb z (List.mem_of_mem_drop hz))
theorem shadone (A : Option Addr) (c : Nat) (l : List Int) (w : World) (hT : TabQ w) (hr : Kd.C (Kd.int .u8) w A l.length l) (hc : l.length ≤ c) (hb : ∀ z ∈ l, 0 ≤ z ∧ z < 256) :
    Calls Tryd.prog 13 #[.slice A l.length c] w fun e w' => e = .returned (.bool true) ∧ Below w.heap.size w w' := by
  by_cases hlen : 700 < l.length
  · exact shadone_long A c l w hT (fun W hT => alive01 W hT) hlen
  obtain ⟨M, h0, h1, h2⟩ := padl_length l.length (by omega)
  have hM : (l ++ padl (l.length : Int)).length = 64 * M := by rw [List.length_append]; exact h2
  have hp : (padl (l.length : Int)).length = 1 + ((119 - (l.length : Int) % 64) % 64).toNat + 8 := by simp only [padl, List.length_append, List.length_singleton, List.length_replicate, padt_length]
  refine shadone_walk A c l w hT (fun W hT => alive01 W hT) (padl (l.length : Int)) (l ++ padl (l.length : Int)) M (64 * M) (fin5 l) hr hc hlen (by omega) rfl ⟨hM, rfl, h0, by omega⟩ ?_ (fun W => pad_c (l.length : Int) (by omega) (by omega) W) (fun W A c hT hr hc => sum_c A c l W hT hr hc (by omega)) (fun W h ad c x hT hC hx hc => ?_)
  · unfold fin5
    rw [hM, show 64 * M / 64 = M by omega]
    refine foldb_doW M first5 _ hM (fun z hz => ?_)
    rcases List.mem_append.1 hz with hz | hz
    · exact hb z hz
    · exact padl_range _ z hz
  · have := block_ok h.1 h.2.1 h.2.2.1 h.2.2.2.1 h.2.2.2.2 (some ad) c x W hT (by rw [hx]; exact hC) (by omega) hx
    rw [hx] at this
    exact this
end Go.Proofs.YtbldecdipicddaaDoor.Hand
