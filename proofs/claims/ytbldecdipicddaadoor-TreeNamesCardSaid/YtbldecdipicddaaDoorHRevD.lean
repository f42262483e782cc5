/- slices.Reverse of an own row of digests. Written by wip/s1/mkrevd.py. -/
import Derived.Test.YtbldecdipicddaaDoorDgApp
import Derived.Test.YtbldecdipicddaaDoorHRev
set_option linter.unusedSimpArgs false
set_option linter.unusedVariables false
namespace Go.Proofs.YtbldecdipicddaaDoor.Hand
open Go Go.RowKit Go.Proofs.YtbldecdipicddaaDoorW.PrintWords Go.Proofs.YtbldecdipicddaaDoorW.PrintLast
def dcs (d : Dg) : List Value := (dgl d).map (Value.int .u8)
theorem dcs_len (d : Dg) : (dcs d).length = 20 := rfl
/-- The cells of digests, one behind the other. -/
def flatD : List Dg → List Value
  | [] => []
  | d :: xs => dcs d ++ flatD xs
theorem flatD_len : ∀ xs : List Dg, (flatD xs).length = xs.length * 20
  | [] => rfl
  | d :: xs => by rw [flatD, List.length_append, flatD_len xs, dcs_len, List.length_cons]; omega
theorem flatD_app : ∀ xs ys : List Dg, flatD (xs ++ ys) = flatD xs ++ flatD ys
  | [], ys => rfl
  | d :: xs, ys => by rw [List.cons_append, flatD, flatD_app xs ys, flatD, List.append_assoc]
theorem flatD_at (xs : List Dg) (i : Nat) (h : i < xs.length) : flatD xs = flatD (xs.take i) ++ dcs (xs.getD i zdg) ++ flatD (xs.drop (i + 1)) := by
  have e : xs = xs.take i ++ ([xs.getD i zdg] ++ xs.drop (i + 1)) := by
    rw [List.getD_eq_getElem?_getD, List.getElem?_eq_getElem h]
    show xs = xs.take i ++ (xs[i] :: xs.drop (i + 1))
    rw [List.getElem_cons_drop, List.take_append_drop]
  calc flatD xs = flatD (xs.take i ++ ([xs.getD i zdg] ++ xs.drop (i + 1))) := congrArg flatD e
    _ = _ := by rw [flatD_app, flatD_app]; simp [flatD]
theorem flatD_set (xs : List Dg) (i : Nat) (d : Dg) (h : i < xs.length) : flatD (xs.set i d) = flatD (xs.take i) ++ dcs d ++ flatD (xs.drop (i + 1)) := by
  rw [List.set_eq_take_append_cons_drop, if_pos h, flatD_app, flatD, List.append_assoc]
/-- The block of a row of digests. -/
def DgB (g : Nat) (rest : List Value) (xs : List Dg) (W : World) : Prop := W.heap[g]? = some (.cells (flatD xs ++ rest).toArray 23 (0, 0))
theorem addr_add (g o : Nat) : (⟨g, 0, none⟩ : Addr).add o = ⟨g, o, none⟩ := by by_cases h : o = 0 <;> simp [Addr.add, h]
theorem DgB.load {g : Nat} {rest : List Value} {xs : List Dg} {W : World} (h : DgB g rest xs W) {i : Nat} (hi : i < xs.length) {ad : Addr} (ha : ad = ⟨g, 0, none⟩) (d : Dg) (hd : d = xs.getD i zdg) : (loadVar 23 (ad.add (i * 20))).run Tryd.prog W = .ok (.agg #[.int .u8 (d 0), .int .u8 (d 1), .int .u8 (d 2), .int .u8 (d 3), .int .u8 (d 4), .int .u8 (d 5), .int .u8 (d 6), .int .u8 (d 7), .int .u8 (d 8), .int .u8 (d 9), .int .u8 (d 10), .int .u8 (d 11), .int .u8 (d 12), .int .u8 (d 13), .int .u8 (d 14), .int .u8 (d 15), .int .u8 (d 16), .int .u8 (d 17), .int .u8 (d 18), .int .u8 (d 19)]) W := by
  subst ha
  refine loadVar_at W 23 _ (dcs d) (by kernel_rfl) (by kernel_rfl) (fun j v hj => ?_)
  rw [Go.Deep.add_add, addr_add, blk_cell h, List.getElem?_toArray, flatD_at xs i hi, ← hd]
  have hj20 : j < 20 := (List.getElem?_eq_some_iff.1 hj).1
  have hl : (flatD (xs.take i)).length = i * 20 := by rw [flatD_len, List.length_take, Nat.min_eq_left (by omega)]
  rw [List.append_assoc, List.append_assoc, List.getElem?_append_right (by omega), List.getElem?_append_left (by rw [dcs_len]; omega), hl, show i * 20 + j - i * 20 = j by omega]
  exact hj
theorem KeepOut.cells {g : Nat} {w : World} : ∀ (vs : List Value) (o : Nat) (w' : World), KeepOut g w w' → KeepOut g w (w'.setCells g o vs)
  | [], _, _, h => h
  | v :: vs, o, _, h => KeepOut.cells vs (o + 1) _ (h.set o v)
theorem DgB.store {g : Nat} {rest : List Value} {xs : List Dg} {W w0 : World} (h : DgB g rest xs W) (hk : KeepOut g w0 W) {i : Nat} (hi : i < xs.length) {ad : Addr} (ha : ad = ⟨g, 0, none⟩) (d : Dg) : ∃ W1, (storeVar 23 (ad.add (i * 20)) (.agg #[.int .u8 (d 0), .int .u8 (d 1), .int .u8 (d 2), .int .u8 (d 3), .int .u8 (d 4), .int .u8 (d 5), .int .u8 (d 6), .int .u8 (d 7), .int .u8 (d 8), .int .u8 (d 9), .int .u8 (d 10), .int .u8 (d 11), .int .u8 (d 12), .int .u8 (d 13), .int .u8 (d 14), .int .u8 (d 15), .int .u8 (d 16), .int .u8 (d 17), .int .u8 (d 18), .int .u8 (d 19)])).run Tryd.prog W = .ok () W1 ∧ DgB g rest (xs.set i d) W1 ∧ KeepOut g w0 W1 := by
  subst ha
  have hl : (flatD (xs.take i)).length = i * 20 := by rw [flatD_len, List.length_take, Nat.min_eq_left (by omega)]
  refine ⟨W.setCells g (i * 20) (dcs d), ?_, ?_, hk.cells _ _ _⟩
  · rw [addr_add]
    refine storeVar_blk h 23 (i * 20) (dcs d) (by kernel_rfl) (by rfl) ?_
    rw [List.size_toArray, List.length_append, flatD_len, dcs_len]
    omega
  · have h2 : W.heap[g]? = some (.cells (flatD (xs.take i) ++ dcs (xs.getD i zdg) ++ (flatD (xs.drop (i + 1)) ++ rest)).toArray 23 (0, 0)) := by
      rw [← List.append_assoc, ← flatD_at xs i hi]
      exact h
    have := blk_setCells (flatD (xs.drop (i + 1)) ++ rest) (dcs d) (dcs (xs.getD i zdg)) (flatD (xs.take i)) W rfl h2
    rw [hl] at this
    unfold DgB
    rw [flatD_set xs i d hi, List.append_assoc]
    exact this
theorem storeA_run {P : Program} {o : Oper} {a : Act} {W w1 : World} {T : TypeId} {p : Tmp} {v : Operand} (ho : o.op = .store T (.tmp p) v) {ad : Addr} {x : Value}
    (hx : a.eval (.tmp p) = .pointer (some ad)) (hy : a.eval v = x) (hs : (storeVar T ad x).run P W = .ok () w1) : (execOp a.eval o).run P W = .ok .skip w1 := by
  unfold execOp
  simp only [ho, hx, hy, Instr.storeAt, Instr.sureAddr, Sem.run_bind, Sem.run_pure, Result.andThen_ok, hs]
/-- The digests behind so many swaps. -/
def Rvx (xs : List Dg) (n a b : Nat) (cu : List Dg) : Prop := cu.length = n ∧ ∀ j, j < n → cu.getD j zdg = if j < a ∨ b < j then xs.getD (n - 1 - j) zdg else xs.getD j zdg
theorem getD_set (cu : List Dg) (i j : Nat) (d : Dg) (hj : j < cu.length) : (cu.set i d).getD j zdg = if i = j then d else cu.getD j zdg := by
  rw [List.getD_eq_getElem?_getD, List.getElem?_set]
  by_cases h : i = j
  · subst h
    rw [if_pos rfl, if_pos hj, if_pos rfl]
    rfl
  · rw [if_neg h, if_neg h, ← List.getD_eq_getElem?_getD]
theorem Rvx.swap {xs : List Dg} {n a b : Nat} {cu : List Dg} (h : Rvx xs n a b cu) (hab : a < b) (hn : a + b + 1 = n) : Rvx xs n (a + 1) (b - 1) ((cu.set a (xs.getD b zdg)).set b (xs.getD a zdg)) := by
  obtain ⟨hl, hc⟩ := h
  refine ⟨by rw [List.length_set, List.length_set, hl], fun j hj => ?_⟩
  rw [getD_set _ _ _ _ (by rw [List.length_set]; omega), getD_set _ _ _ _ (by omega), hc j hj]
  by_cases h1 : b = j
  · subst h1
    rw [if_pos rfl, if_pos (by omega), show n - 1 - b = a by omega]
  · rw [if_neg h1]
    by_cases h2 : a = j
    · subst h2
      rw [if_pos rfl, if_pos (by omega), show n - 1 - a = b by omega]
    · rw [if_neg h2]
      by_cases h3 : j < a ∨ b < j
      · rw [if_pos h3, if_pos (by omega)]
      · rw [if_neg h3, if_neg (by omega)]
theorem Rvx.done {xs : List Dg} {n a b : Nat} {cu : List Dg} (h : Rvx xs n a b cu) (hx : xs.length = n) (hab : ¬ a < b) (hn : a + b + 1 = n) : cu = xs.reverse := by
  obtain ⟨hl, hc⟩ := h
  refine List.ext_getElem? fun j => ?_
  by_cases hj : j < n
  · have e := hc j hj
    have e2 : (if j < a ∨ b < j then xs.getD (n - 1 - j) zdg else xs.getD j zdg) = xs.getD (n - 1 - j) zdg := by
      by_cases h1 : j < a ∨ b < j
      · rw [if_pos h1]
      · rw [if_neg h1, show n - 1 - j = j by omega]
    rw [e2, List.getD_eq_getElem?_getD, List.getD_eq_getElem?_getD, List.getElem?_eq_getElem (by omega), List.getElem?_eq_getElem (by omega)] at e
    rw [List.getElem?_reverse (by omega), hx, List.getElem?_eq_getElem (by omega), List.getElem?_eq_getElem (by omega)]
    exact congrArg some e
  · rw [List.getElem?_eq_none (by omega), List.getElem?_eq_none (by rw [List.length_reverse]; omega)]
theorem Rvx.at_a {xs : List Dg} {n a b : Nat} {cu : List Dg} (h : Rvx xs n a b cu) (hab : a < b) (hn : a + b + 1 = n) : xs.getD a zdg = cu.getD a zdg := by rw [h.2 a (by omega), if_neg (by omega)]
theorem Rvx.at_b {xs : List Dg} {n a b : Nat} {cu : List Dg} (h : Rvx xs n a b cu) (hab : a < b) (hn : a + b + 1 = n) : xs.getD b zdg = cu.getD b zdg := by rw [h.2 b (by omega), if_neg (by omega)]
/-- An own row of digests: its block. -/
theorem own_flat {W : World} {b : Nat} {v : Value} {xs : List Dg} (h : Kd.R kdg 23 W b (fun _ => True) v xs) (h0 : 0 < xs.length) : ∃ (g cap : Nat) (rest : List Value), v = .slice (some ⟨g, 0, none⟩) xs.length cap ∧ b ≤ g ∧ DgB g rest xs W ∧ xs.length ≤ cap ∧ cap ≤ maxLen ∧ (flatD xs ++ rest).length = cap * 20 := by
  obtain ⟨_, inner, ho, hr⟩ := h
  rcases ho.2 with ⟨_, hz⟩ | ⟨g, cap, cur, rfl, hb, hg, hnc, hm, hs, ht⟩
  · omega
  have key : ∀ (xs : List Dg) (cs : List Value), Reps (Kd.M kdg W b (fun k => True ∧ some k ≠ (Value.slice (some ⟨g, 0, none⟩) xs.length cap).ownBlock)) 20 xs cs → cs = flatD xs := by
    intro xs
    generalize (Value.slice (some ⟨g, 0, none⟩) xs.length cap).ownBlock = q
    induction xs with
    | nil => intro cs h; exact List.length_eq_zero_iff.1 (by rw [h.1]; rfl)
    | cons d xs ih =>
      intro cs h
      have hl := h.1
      rw [List.length_cons] at hl
      have h1 := kdg_cells (kdg.K_of_M (h.2 0 d rfl))
      have h2 := ih (cs.drop 20) ⟨by rw [List.length_drop, hl]; omega, fun j p hj => by
        have := h.2 (j + 1) p (by simpa using hj)
        rw [List.drop_drop, show 20 + j * 20 = (j + 1) * 20 by omega]
        exact this⟩
      rw [show 0 * 20 = 0 from rfl, List.drop_zero] at h1
      rw [flatD, ← h2]
      exact (List.take_append_drop 20 cs).symm.trans (congrArg (· ++ cs.drop 20) h1)
  have e := key xs inner hr
  have e2 : cur.toList = flatD xs ++ cur.toList.drop (xs.length * 20) := by
    rw [← e, ← show cur.toList.take (xs.length * 20) = inner from ht, List.take_append_drop]
  refine ⟨g, cap, cur.toList.drop (xs.length * 20), rfl, hb, ?_, hnc, hm, ?_⟩
  · unfold DgB
    rw [← e2]
    exact hg
  · rw [← e2]
    exact hs
theorem own_of_flat {W : World} {b g cap : Nat} {rest : List Value} {xs : List Dg} (h : DgB g rest xs W) (hb : b ≤ g) (hc : xs.length ≤ cap) (hm : cap ≤ maxLen) (hl : (flatD xs ++ rest).length = cap * 20) : Kd.R kdg 23 W b (fun _ => True) (.slice (some ⟨g, 0, none⟩) xs.length cap) xs := by
  refine ⟨fun _ _ => trivial, flatD xs, ⟨flatD_len xs, .inr ⟨g, cap, (flatD xs ++ rest).toArray, rfl, hb, h, hc, hm, hl, ?_⟩⟩, flatD_len xs, fun j d hj => ?_⟩
  · rw [show (flatD xs ++ rest).toArray.toList = flatD xs ++ rest from rfl, show kdg.sz = 20 from rfl, ← flatD_len xs, List.take_left]
  · have hj' : j < xs.length := (List.getElem?_eq_some_iff.1 hj).1
    have hd : xs.getD j zdg = d := by rw [List.getD_eq_getElem?_getD, hj]; rfl
    have e : ((flatD xs).drop (j * 20)).take 20 = dcs d := by
      rw [flatD_at xs j hj', hd, List.append_assoc]
      have hl : (flatD (xs.take j)).length = j * 20 := by rw [flatD_len, List.length_take, Nat.min_eq_left (by omega)]
      rw [← hl, List.drop_left, show (20 : Nat) = (dcs d).length from rfl, List.take_left]
    show Kd.M kdg W b _ d (((flatD xs).drop (j * 20)).take 20)
    rw [e]
    exact dgM _ _ _ _
set_option maxHeartbeats 1600000 in
set_option maxRecDepth 100000 in
theorem revd_walk (g n cap : Nat) (ad : Addr) (rest : List Value) (xs : List Dg) (w : World) (ha : ad = ⟨g, 0, none⟩) (hb : DgB g rest xs w) (hl : xs.length = n) (hn : 0 < n ∧ n < 1000) :
    Calls Tryd.prog 75 #[.slice (some ad) n cap] w fun e w' => e = .returned (.tuple #[]) ∧ DgB g rest xs.reverse w' ∧ KeepOut g w w' := by
  have HA := Aside0.mk ha
  have HH := Aside0.mk hb
  have HL := Aside0.mk (And.intro hl hn)
  have e0 : wrap64 ((n : Int) - 1) = ((n - 1 : Nat) : Int) := by unfold wrap64; omega
  obtain ⟨b0, hb0⟩ : ∃ b : Nat, b = n - 1 := ⟨_, rfl⟩
  rw [← hb0] at e0
  have HB0 := Aside0.mk hb0
  clear hb hl hn hb0 ha
  go_enter Tryd.func75, Tryd.ntmps75
  go_wp2_with fail
  go_loopg [2, 3] n (fun k v2 v3 w' => ∃ (a b : Nat) (cu : List Dg), v2 = .int .i64 (a : Int) ∧ v3 = .int .i64 (b : Int) ∧ Aside0 (a + k = n) ∧ Aside0 (a + b + 1 = n) ∧ Aside0 (Rvx xs n a b cu) ∧ Aside0 (DgB g rest cu w') ∧ Aside0 (KeepOut g w w'))
  case atStart => exact ⟨0, b0, xs, rfl, (by rw [e0]), ⟨by omega⟩, ⟨by have := HB0.out; have := HL.out; omega⟩, ⟨HL.out.1, fun j hj => by rw [if_neg (by have := HB0.out; omega)]⟩, HH, ⟨KeepOut.refl _ _⟩⟩
  case round =>
    clear HH e0
    obtain ⟨a, b, cu, rfl, rfl, HK, HN, HR, HH, HO⟩ := hrel
    by_cases hab : a < b
    · obtain ⟨go, rfl⟩ : ∃ j, gk = j + 1 := ⟨gk - 1, by have := HK.out; have := HN.out; omega⟩
      have hN := HN.out
      have hL := HL.out
      have t1 : ((a : Int) < (b : Int)) = True := eq_true (by omega)
      have t2 : (a < b) = True := eq_true hab
      have t3 : (0 ≤ (a : Int)) = True := eq_true (by omega)
      have t4 : (0 ≤ (b : Int)) = True := eq_true (by omega)
      have t5 : ((a : Int) < (n : Int)) = True := eq_true (by omega)
      have t6 : ((b : Int) < (n : Int)) = True := eq_true (by omega)
      have t7 : (a < n) = True := eq_true (by omega)
      have t8 : (b < n) = True := eq_true (by omega)
      have u1 : wrap64 ((a : Int) + 1) = ((a + 1 : Nat) : Int) := by unfold wrap64; omega
      have u2 : wrap64 ((b : Int) - 1) = ((b - 1 : Nat) : Int) := by unfold wrap64; omega
      have HAB := Aside0.mk hab
      obtain ⟨fa, hfa⟩ : ∃ f, f = xs.getD a zdg := ⟨_, rfl⟩
      obtain ⟨fb, hfb⟩ : ∃ f, f = xs.getD b zdg := ⟨_, rfl⟩
      have HFA := Aside0.mk hfa
      have HFB := Aside0.mk hfb
      obtain ⟨a2, ha2⟩ : ∃ x : Nat, x = a + 1 := ⟨_, rfl⟩
      obtain ⟨b2, hb2⟩ : ∃ x : Nat, x = b - 1 := ⟨_, rfl⟩
      rw [← ha2] at u1
      rw [← hb2] at u2
      have HA2 := Aside0.mk (And.intro ha2 hb2)
      have HLA := Aside0.mk (show a < cu.length ∧ b < cu.length by have := HR.out.1; omega)
      clear hN hL hab hfa hfb ha2 hb2
      go_wp2_with fail
      have H5 := Aside0.mk (show DgB g rest cu (World.drew wr) from HH.out)
      have O5 := Aside0.mk HO.out.drew
      clear HH HO
      refine start_ (n := 16) (S := fun w' => (loadVar 23 (ad.add (a * 20))).run Tryd.prog w' = .ok (.agg #[.int .u8 (fa 0), .int .u8 (fa 1), .int .u8 (fa 2), .int .u8 (fa 3), .int .u8 (fa 4), .int .u8 (fa 5), .int .u8 (fa 6), .int .u8 (fa 7), .int .u8 (fa 8), .int .u8 (fa 9), .int .u8 (fa 10), .int .u8 (fa 11), .int .u8 (fa 12), .int .u8 (fa 13), .int .u8 (fa 14), .int .u8 (fa 15), .int .u8 (fa 16), .int .u8 (fa 17), .int .u8 (fa 18), .int .u8 (fa 19)]) w' ∧ (loadVar 23 (ad.add (b * 20))).run Tryd.prog w' = .ok (.agg #[.int .u8 (fb 0), .int .u8 (fb 1), .int .u8 (fb 2), .int .u8 (fb 3), .int .u8 (fb 4), .int .u8 (fb 5), .int .u8 (fb 6), .int .u8 (fb 7), .int .u8 (fb 8), .int .u8 (fb 9), .int .u8 (fb 10), .int .u8 (fb 11), .int .u8 (fb 12), .int .u8 (fb 13), .int .u8 (fb 14), .int .u8 (fb 15), .int .u8 (fb 16), .int .u8 (fb 17), .int .u8 (fb 18), .int .u8 (fb 19)]) w') (ds := [13, 15]) #[false, false, false, false, false, false, false, false, false, false, false, false, false, false, false, false] (by kernel_rfl) rfl rfl ⟨(H5.out.load HLA.out.1 HA.out fa (HFA.out.trans (HR.out.at_a HAB.out HN.out))), (H5.out.load HLA.out.2 HA.out fb (HFB.out.trans (HR.out.at_b HAB.out HN.out)))⟩ (fun hHeld => ?_)
      generalize World.drew wr = w5 at H5 O5 hHeld ⊢
      refine pure_ (i := 0) (N := some 14) (v := ?_) (a' := ?_) #[true, false, false, false, false, false, false, false, false, false, false, false, false, false, false, false] rfl rfl (by kernel_rfl) (fun _ _ _ h => h) (Or.inl ⟨by rfl, ?_⟩) ?_ ?_
      rotate_left
      · intro w'
        go_simp
        with_reducible rfl
      rotate_left
      · simp only [Act.put, List.setIfInBounds_toArray, List.set_cons_zero, List.set_cons_succ, i64_w, i32_w]
        rfl
      refine pure_ (i := 1) (N := some 15) (v := ?_) (a' := ?_) #[true, true, false, false, false, false, false, false, false, false, false, false, false, false, false, false] rfl rfl (by kernel_rfl) (fun _ _ _ h => h) (Or.inl ⟨by rfl, ?_⟩) ?_ ?_
      rotate_left
      · intro w'
        go_simp
        with_reducible rfl
      rotate_left
      · simp only [Act.put, List.setIfInBounds_toArray, List.set_cons_zero, List.set_cons_succ, i64_w, i32_w]
        rfl
      refine pure_ (i := 2) (N := some 16) (v := ?_) (a' := ?_) #[true, true, true, false, false, false, false, false, false, false, false, false, false, false, false, false] rfl rfl (by kernel_rfl) (fun _ _ _ h => h) (Or.inl ⟨by rfl, ?_⟩) ?_ ?_
      rotate_left
      · intro w'
        go_simp
        with_reducible rfl
      rotate_left
      · simp only [Act.put, List.setIfInBounds_toArray, List.set_cons_zero, List.set_cons_succ, i64_w, i32_w]
        rfl
      refine pure_ (i := 3) (N := some 17) (v := ?_) (a' := ?_) #[true, true, true, true, false, false, false, false, false, false, false, false, false, false, false, false] rfl rfl (by kernel_rfl) (fun _ _ _ h => h) (Or.inl ⟨by rfl, ?_⟩) ?_ ?_
      rotate_left
      · intro w'
        go_simp
        with_reducible rfl
      rotate_left
      · simp only [Act.put, List.setIfInBounds_toArray, List.set_cons_zero, List.set_cons_succ, i64_w, i32_w]
        rfl
      refine pure_ (i := 4) (N := some 18) (v := ?_) (a' := ?_) #[true, true, true, true, true, false, false, false, false, false, false, false, false, false, false, false] rfl rfl (by kernel_rfl) (fun _ _ _ h => h) (Or.inl ⟨by rfl, ?_⟩) ?_ ?_
      rotate_left
      · intro w'
        go_simp
        with_reducible rfl
      rotate_left
      · simp only [Act.put, List.setIfInBounds_toArray, List.set_cons_zero, List.set_cons_succ, i64_w, i32_w]
        rfl
      refine pure_ (i := 5) (N := some 19) (v := ?_) (a' := ?_) #[true, true, true, true, true, true, false, false, false, false, false, false, false, false, false, false] rfl rfl (by kernel_rfl) (fun _ _ _ h => h) (Or.inl ⟨by rfl, ?_⟩) ?_ ?_
      rotate_left
      · intro w'
        go_simp
        with_reducible rfl
      rotate_left
      · simp only [Act.put, List.setIfInBounds_toArray, List.set_cons_zero, List.set_cons_succ, i64_w, i32_w]
        rfl
      refine pure_ (i := 6) (N := some 20) (v := ?_) (a' := ?_) #[true, true, true, true, true, true, true, false, false, false, false, false, false, false, false, false] rfl rfl (by kernel_rfl) (fun _ _ _ h => h) (Or.inl ⟨by rfl, ?_⟩) ?_ ?_
      rotate_left
      · intro w'
        go_simp
        with_reducible rfl
      rotate_left
      · simp only [Act.put, List.setIfInBounds_toArray, List.set_cons_zero, List.set_cons_succ, i64_w, i32_w]
        rfl
      refine pure_ (i := 8) (N := some 22) (v := ?_) (a' := ?_) #[true, true, true, true, true, true, true, false, true, false, false, false, false, false, false, false] rfl rfl (by kernel_rfl) (fun _ _ _ h => h) (Or.inl ⟨by rfl, ?_⟩) ?_ ?_
      rotate_left
      · intro w'
        go_simp
        with_reducible rfl
      rotate_left
      · simp only [Act.put, List.setIfInBounds_toArray, List.set_cons_zero, List.set_cons_succ, i64_w, i32_w]
        rfl
      refine pure_ (i := 9) (N := some 23) (v := ?_) (a' := ?_) #[true, true, true, true, true, true, true, false, true, true, false, false, false, false, false, false] rfl rfl (by kernel_rfl) (fun _ _ _ h => h) (Or.inl ⟨by rfl, ?_⟩) ?_ ?_
      rotate_left
      · intro w'
        go_simp
        with_reducible rfl
      rotate_left
      · simp only [Act.put, List.setIfInBounds_toArray, List.set_cons_zero, List.set_cons_succ, i64_w, i32_w]
        rfl
      refine pure_ (i := 10) (N := some 24) (v := ?_) (a' := ?_) #[true, true, true, true, true, true, true, false, true, true, true, false, false, false, false, false] rfl rfl (by kernel_rfl) (fun _ _ _ h => h) (Or.inl ⟨by rfl, ?_⟩) ?_ ?_
      rotate_left
      · intro w'
        go_simp
        with_reducible rfl
      rotate_left
      · simp only [Act.put, List.setIfInBounds_toArray, List.set_cons_zero, List.set_cons_succ, i64_w, i32_w]
        rfl
      refine take_ (i := 7) (N := some 21) (v := ?_) (a' := ?_) #[true, true, true, true, true, true, true, true, true, true, true, false, false, false, false, false] rfl rfl (by kernel_rfl) (fun _ _ _ h => h) (Or.inl ⟨by rfl, ?_⟩) hHeld ?_ ?_
      rotate_left
      · rintro w' ⟨s0, s1⟩
        refine (loadA_run (T := 23) rfl rfl s1).trans ?_
        with_reducible rfl
      rotate_left
      · simp only [Act.put, List.setIfInBounds_toArray, List.set_cons_zero, List.set_cons_succ, i64_w, i32_w]
        rfl
      refine take_ (i := 11) (N := some 25) (v := ?_) (a' := ?_) #[true, true, true, true, true, true, true, true, true, true, true, true, false, false, false, false] rfl rfl (by kernel_rfl) (fun _ _ _ h => h) (Or.inl ⟨by rfl, ?_⟩) hHeld ?_ ?_
      rotate_left
      · rintro w' ⟨s0, s1⟩
        refine (loadA_run (T := 23) rfl rfl s0).trans ?_
        with_reducible rfl
      rotate_left
      · simp only [Act.put, List.setIfInBounds_toArray, List.set_cons_zero, List.set_cons_succ, i64_w, i32_w]
        rfl
      refine pure_ (i := 12) (N := some 26) (v := ?_) (a' := ?_) #[true, true, true, true, true, true, true, true, true, true, true, true, true, false, false, false] rfl rfl (by kernel_rfl) (fun _ _ _ h => h) (Or.inl ⟨by rfl, ?_⟩) ?_ ?_
      rotate_left
      · intro w'
        go_simp
        with_reducible rfl
      rotate_left
      · simp only [Act.put, List.setIfInBounds_toArray, List.set_cons_zero, List.set_cons_succ, i64_w, i32_w]
        rfl
      refine last_ (i := 13) (N := none) #[true, true, true, true, true, true, true, true, true, true, true, true, true, true, false, false] rfl rfl (by kernel_rfl) (by decide) (fun K hK => ?_)
      obtain ⟨w6, hs6, h6, k6⟩ := H5.out.store O5.out HLA.out.1 HA.out fb
      have HS6 := Aside0.mk hs6
      have H6 := Aside0.mk h6
      have O6 := Aside0.mk k6
      clear hs6 h6 k6 hHeld H5 O5
      refine skip_ (w1 := w6) (by rfl) rfl (by exact storeA_run rfl rfl rfl HS6.out) ?_
      clear HS6
      refine hK.out _ _ ?_
      clear hK K
      refine pure_ (i := 14) (N := some 27) (v := ?_) (a' := ?_) #[true, true, true, true, true, true, true, true, true, true, true, true, true, true, true, false] rfl rfl (by kernel_rfl) (fun _ _ _ h => h) (Or.inl ⟨by rfl, ?_⟩) ?_ ?_
      rotate_left
      · intro w'
        go_simp
        with_reducible rfl
      rotate_left
      · simp only [Act.put, List.setIfInBounds_toArray, List.set_cons_zero, List.set_cons_succ, i64_w, i32_w]
        rfl
      refine last_ (i := 15) (N := none) #[true, true, true, true, true, true, true, true, true, true, true, true, true, true, true, true] rfl rfl (by kernel_rfl) (by decide) (fun K hK => ?_)
      obtain ⟨w7, hs7, h7, k7⟩ := H6.out.store O6.out (by rw [List.length_set]; exact HLA.out.2) HA.out fa
      have HS7 := Aside0.mk hs7
      have H7 := Aside0.mk h7
      have O7 := Aside0.mk k7
      clear hs7 h7 k7 H6 O6
      refine skip_ (w1 := w7) (by rfl) rfl (by exact storeA_run rfl rfl rfl HS7.out) ?_
      clear HS7
      refine hK.out _ _ ?_
      clear hK K
      refine done_ (by kernel_rfl) ?_
      go_wp2_with fail
      go_roundg go
      case measure => have := HK.out; omega
      case rel => exact ⟨a2, b2, _, (by first | rfl | rw [u1]), (by first | rfl | rw [u2]), ⟨by have := HK.out; have := HA2.out; omega⟩, ⟨by have := HN.out; have := HA2.out; have := HAB.out; omega⟩, ⟨by rw [HA2.out.1, HA2.out.2, HFA.out, HFB.out]; exact HR.out.swap HAB.out HN.out⟩, H7, O7⟩
    · have t1 : ((a : Int) < (b : Int)) = False := eq_false (by omega)
      have t2 : (a < b) = False := eq_false hab
      have HAB := Aside0.mk hab
      clear hab
      go_wp2_with fail
      go_end0
      exact ⟨rfl, by rw [← HR.out.done HL.out.1 HAB.out HN.out]; exact HH.out, HO.out⟩
set_option maxRecDepth 100000 in
theorem revd_nil (A : Option Addr) (c : Nat) (w : World) : Calls Tryd.prog 75 #[.slice A 0 c] w fun e w' => e = .returned (.tuple #[]) ∧ w' = w := by
  go_enter Tryd.func75, Tryd.ntmps75
  have e0 : wrap64 (0 - 1) = -1 := by unfold wrap64; omega
  go_wp2_with fail
  go_loopg [2, 3] 1 (fun k v2 v3 w' => v2 = .int .i64 0 ∧ v3 = .int .i64 (-1) ∧ Aside0 (w' = w))
  case atStart => exact ⟨rfl, (by first | rfl | (simp [e0]; done) | (congr 1; unfold wrap64; omega)), ⟨rfl⟩⟩
  case round =>
    obtain ⟨rfl, rfl, HW⟩ := hrel
    go_wp2_with fail
    go_end0
    exact ⟨rfl, HW.out⟩
/-- Reverse of an own row of digests. -/
theorem revd_calls {b : Nat} {v : Value} {xs : List Dg} (w : World) (h : Kd.R kdg 23 w b (fun _ => True) v xs) (hn : xs.length < 1000) : Calls Tryd.prog 75 #[v] w fun e w' => e = .returned (.tuple #[]) ∧ Kd.R kdg 23 w' b (fun _ => True) v xs.reverse ∧ ∀ w0 : World, w0.heap.size ≤ b → Below w0.heap.size w0 w → Below w0.heap.size w0 w' := by
  by_cases h0 : xs.length = 0
  · obtain rfl := List.length_eq_zero_iff.1 h0
    obtain ⟨A, c, rfl, _, _⟩ := Kd.R_reads h
    refine (revd_nil A c w).mono ?_
    rintro e w' ⟨rfl, rfl⟩
    exact ⟨rfl, h, fun _ _ hb => hb⟩
  · obtain ⟨g, cap, rest, rfl, hb, hB, hc, hm, hl⟩ := own_flat h (by omega)
    refine (revd_walk g xs.length cap _ rest xs w rfl hB rfl ⟨by omega, hn⟩).mono ?_
    rintro e w' ⟨rfl, hB2, hk⟩
    refine ⟨rfl, ?_, fun w0 hw hb0 => hk.1 w0 (Nat.le_trans hw hb) hb0⟩
    have := own_of_flat (b := b) hB2 hb (cap := cap) (by rw [List.length_reverse]; exact hc) hm (by rw [List.length_append, flatD_len, List.length_reverse, ← flatD_len, ← List.length_append]; exact hl)
    rwa [List.length_reverse] at this
end Go.Proofs.YtbldecdipicddaaDoor.Hand
