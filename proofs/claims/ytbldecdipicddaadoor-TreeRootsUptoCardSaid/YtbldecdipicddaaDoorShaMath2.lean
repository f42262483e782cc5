/- Digests: sha.Sum's and the reference's agree. -/
import Derived.Test.YtbldecdipicddaaDoorHOf
import Derived.Test.YtbldecdipicddaaDoorShaMath
import Derived.Test.YtbldecdipicddaaDoorPadMathR
import Derived.Test.YtbldecdipicddaaDoorSumC
set_option linter.unusedSimpArgs false
set_option linter.unusedVariables false
namespace Go.Proofs.YtbldecdipicddaaDoor.Hand
open Go Go.RowKit Go.Proofs.YtbldecdipicddaaDoorW.PrintWords Go.Proofs.YtbldecdipicddaaDoor.QP
theorem word_take (l : List Int) (t : Nat) (h : t < 16) : word (l.take 64) t = word l t := by
  have e : ∀ k, k < 64 → (l.take 64).getD k 0 = l.getD k 0 := by
    intro k hk
    rw [List.getD_eq_getElem?_getD, List.getElem?_take, if_pos hk, List.getD_eq_getElem?_getD]
  unfold word
  rw [e _ (by omega), e _ (by omega), e _ (by omega), e _ (by omega)]
theorem wd_take (l : List Int) : ∀ t, t ≤ 16 → wd (l.take 64) t = wd l t
  | 0, _ => by rw [wd, wd]
  | t + 1, h => by rw [wd, wd, wd_take l t (by omega), word_take l t (by omega)]
theorem wx_take (l : List Int) : ∀ k, wx (l.take 64) k = wx l k
  | 0 => by rw [wx, wx, wd_take l 16 (Nat.le_refl _)]
  | k + 1 => by rw [wx, wx, wx_take l k]
theorem rs_take (h0 h1 h2 h3 h4 : Int) (l : List Int) : ∀ t, rs h0 h1 h2 h3 h4 (l.take 64) t = rs h0 h1 h2 h3 h4 l t
  | 0 => by rw [rs, rs]
  | t + 1 => by rw [rs, rs, rs_take h0 h1 h2 h3 h4 l t, wx_take l 64]
theorem done_take (h : W5) (l : List Int) : doneW h (l.take 64) = doneW h l := by
  unfold doneW doneF
  rw [rs_take]
theorem fold_eq : ∀ (M : Nat) (h : W5) (l : List Int), l.length = 64 * M → (∀ z ∈ l, 0 ≤ z ∧ z < 256) → fold64b doneW M h l = fold64 doW M h l
  | 0, h, l, _, _ => by rw [fold64b, fold64]
  | M + 1, h, l, hl, hb => by
    rw [fold64b, fold64, done_take, show doneW h l = doW h l from (do_done _ _ _ _ _ l (by omega) hb).symm]
    exact fold_eq M _ _ (by rw [List.length_drop]; omega) (fun z hz => hb z (List.mem_of_mem_drop hz))
theorem of_c (A : Option Addr) (c : Nat) (l : List Int) (w : World) (hr : Kd.C (Kd.int .u8) w A l.length l) (hlen : l.length ≤ 20000) (hb : ∀ z ∈ l, 0 ≤ z ∧ z < 256) :
    Calls Tryd.prog 80 #[.slice A l.length c] w fun e w' => e = .returned (.agg ((dig (fin5 l)).map (Value.int .u8)).toArray) ∧ Below w.heap.size w w' := by
  obtain ⟨M, h0, h1, h2⟩ := padl_length l.length hlen
  have hM : (l ++ padl (l.length : Int)).length = 64 * M := by rw [List.length_append]; exact h2
  have := of_calls A c l (padl (l.length : Int)) (l ++ padl (l.length : Int)) M w hr (by omega) rfl hM h0 (by omega) (fun W => bitloftref01_Padding.calls _ (l.length : Int) (padl (l.length : Int)) W (rpad_eq _ (by omega) (by omega)))
  unfold fin5
  rw [hM, show 64 * M / 64 = M by omega, ← fold_eq M first5 _ hM (by
    intro z hz
    rcases List.mem_append.1 hz with h | h
    · exact hb z h
    · exact padl_range _ z h)]
  exact this
end Go.Proofs.YtbldecdipicddaaDoor.Hand
