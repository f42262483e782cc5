/- DecoderBack: what was coded is decoded. -/
import Derived.Test.YtgapkifgddjijaaDecD
import Derived.Test.YtgapkifgddjijaaQDx5
import Derived.OpenShut
namespace Go.Proofs.Ytgapkifgddjijaa.Dec
open Go Go.RowKit Go.Proofs.Ytgapkifgddjijaa.Dec Go.Proofs.Ytgapkifgddjijaa.Enc Go.Proofs.YtgapkifgddjijaaW.PrintWords Go.Proofs.YtgapkifgddjijaaW.PrintLast Go.Proofs.YtgapkifgddjijaaW.PrintMore
/-- Where the number lies behind the bytes that are given out, it lies ahead of them. -/
theorem unnrm {l : List Int} (hl : Byts l) : ∀ (f : Nat), f ≤ 4 → ∀ (x1 x2 : Int), In f x1 x2 → ∀ (n y1 y2 : Int) (e : List Int), 0 ≤ n → nrm f x1 x2 [] = (y1, y2, e) → byts l n e.length = e → y1 ≤ win l (n + e.length) → win l (n + e.length) ≤ y2 → x1 ≤ win l n ∧ win l n ≤ x2 := by
  intro f
  induction f with
  | zero =>
    intro _ x1 x2 _ n y1 y2 e _ h _ a b
    rw [nrm] at h
    simp only [Prod.mk.injEq] at h
    obtain ⟨rfl, rfl, rfl⟩ := h
    exact ⟨by simpa using a, by simpa using b⟩
  | succ f ih =>
    intro hf x1 x2 h n y1 y2 e n0 hn hb a b
    by_cases c : x1 / 16777216 = x2 / 16777216
    · obtain ⟨h', _, b0, b1⟩ := h.step (by omega) c
      obtain ⟨z1, z2, t, g, _⟩ := nrm_ok f (by omega) _ _ h'
      rw [nrm, if_pos c, g] at hn
      simp only [Prod.mk.injEq, List.nil_append] at hn
      obtain ⟨rfl, rfl, rfl⟩ := hn
      rw [List.singleton_append, List.length_cons] at hb a b
      rw [byts] at hb
      injection hb with hb1 hb2
      rw [← show n + 1 + (t.length : Int) = n + ((t.length + 1 : Nat) : Int) by omega] at a b
      have g0 := g []
      rw [List.nil_append] at g0
      obtain ⟨u, v⟩ := ih (by omega) _ _ h' (n + 1) z1 z2 t (by omega) g0 hb2 a b
      have d := h.lo
      have d' := h.hi
      obtain ⟨e1, e2⟩ := byt_in hl (t := n + 1) (by omega)
      obtain ⟨e3, e4⟩ := byt_in hl (t := n + 2) (by omega)
      obtain ⟨e5, e6⟩ := byt_in hl (t := n + 3) (by omega)
      obtain ⟨e7, e8⟩ := byt_in hl (t := n + 4) (by omega)
      unfold win at u v ⊢
      rw [show n + 1 + 1 = n + 2 by omega, show n + 1 + 2 = n + 3 by omega, show n + 1 + 3 = n + 4 by omega] at u v
      omega
    · rw [nrm, if_neg c] at hn
      simp only [Prod.mk.injEq] at hn
      obtain ⟨rfl, rfl, rfl⟩ := hn
      exact ⟨by simpa using a, by simpa using b⟩
theorem back {l : List Int} (hl : Byts l) : ∀ (ps : List Int) (bs : List Bool) (x1 x2 n : Int) (o : List Int), ps.length = bs.length → Ok x1 x2 → (∀ p ∈ ps, 0 ≤ p ∧ p ≤ 4095) → 0 ≤ n →
    ∃ e, (rn x1 x2 o ps bs).2.2 = o ++ e ∧ (byts l n (e.length + 4) = e ++ [(rn x1 x2 o ps bs).1 / 16777216 % 256, (rn x1 x2 o ps bs).1 / 65536 % 256, (rn x1 x2 o ps bs).1 / 256 % 256, (rn x1 x2 o ps bs).1 % 256] → x1 ≤ win l n ∧ win l n ≤ x2 ∧ drn l x1 x2 n ps = bs) := by
  intro ps
  induction ps with
  | nil =>
    intro bs x1 x2 n o hn h _ n0
    obtain rfl : bs = [] := List.length_eq_zero_iff.1 hn.symm
    refine ⟨[], by rw [rn, List.append_nil], fun hb => ?_⟩
    simp only [rn, List.length_nil, byts, List.nil_append, List.cons.injEq, and_true] at hb
    rw [show n + 1 + 1 = n + 2 by omega, show n + 2 + 1 = n + 3 by omega] at hb
    obtain ⟨h1, h2, h3, h4⟩ := hb
    obtain ⟨a, b, c⟩ := h
    have e : win l n = x1 := by
      unfold win
      rw [h1, h2, h3, h4]
      omega
    rw [e]
    exact ⟨Int.le_refl _, by omega, rfl⟩
  | cons p ps ih =>
    intro bs x1 x2 n o hn h hp n0
    cases bs with
    | nil => cases hn
    | cons b bs =>
      obtain ⟨p0, p1⟩ := hp p (List.mem_cons_self ..)
      obtain ⟨y1, y2, e1, g, ok, _, el, _⟩ := stp_ok h p0 p1 b
      rw [List.length_cons, List.length_cons] at hn
      obtain ⟨e2, he, hr⟩ := ih bs y1 y2 (n + e1.length) (o ++ e1) (by omega) ok (fun q hq => hp q (List.mem_cons_of_mem _ hq)) (by omega)
      have er : rn x1 x2 o (p :: ps) (b :: bs) = rn y1 y2 (o ++ e1) ps bs := by rw [rn, g o]
      rw [er]
      refine ⟨e1 ++ e2, by rw [he, List.append_assoc], fun hb => ?_⟩
      rw [List.length_append, Nat.add_assoc, byts_add, List.append_assoc] at hb
      obtain ⟨hb1, hb2⟩ := List.append_inj hb (by rw [byts_length])
      obtain ⟨u, v, d⟩ := hr hb2
      obtain ⟨i1, i0⟩ := stp_in h p0 p1
      have ml := md_lt h.lt p1
      have mg := md_le h.lt p0
      have g0 := g []
      rw [List.nil_append] at g0
      cases b
      · rw [stp, if_neg (by decide)] at g0
        obtain ⟨s, t⟩ := unnrm hl 4 (by omega) _ _ i0 n y1 y2 e1 n0 g0 hb1 u v
        refine ⟨by omega, t, ?_⟩
        have c : decide (win l n ≤ md x1 x2 p) = false := decide_eq_false (by omega)
        rw [drn, c, g [], List.nil_append, d]
      · rw [stp, if_pos rfl] at g0
        obtain ⟨s, t⟩ := unnrm hl 4 (by omega) _ _ i1 n y1 y2 e1 n0 g0 hb1 u v
        refine ⟨s, by omega, ?_⟩
        have c : decide (win l n ≤ md x1 x2 p) = true := decide_eq_true t
        rw [drn, c, g [], List.nil_append, d]
theorem byts_mid : ∀ (b a c : List Int), byts (a ++ b ++ c) (a.length : Int) b.length = b := by
  intro b
  induction b with
  | nil => intro a c; rfl
  | cons x b ih =>
    intro a c
    have e : byt (a ++ x :: b ++ c) (a.length : Int) = x := by
      unfold byt rd
      rw [if_pos (by simp only [List.length_append, List.length_cons]; omega), Int.toNat_natCast, List.getD_eq_getElem?_getD, List.append_assoc, List.getElem?_append_right (Nat.le_refl _), Nat.sub_self, List.cons_append, List.getElem?_cons_zero]
      rfl
    rw [List.length_cons, byts, e]
    have := ih (a ++ [x]) c
    rw [List.length_append, List.length_singleton, List.append_assoc a [x] b, List.singleton_append, show ((a.length + 1 : Nat) : Int) = (a.length : Int) + 1 by omega] at this
    rw [this]
theorem byts_ende {x1 : Int} {o : List Int} (ho : ∀ c ∈ o, 0 ≤ c ∧ c < 256) (s : List Int) (hs : Byts s) : Byts (ende x1 o ++ s) := by
  intro n hn
  unfold ende at hn
  simp only [List.mem_append, List.mem_cons, List.not_mem_nil, or_false] at hn
  rcases hn with (h | rfl | rfl | rfl | rfl) | h
  · exact ho n h
  · omega
  · omega
  · omega
  · omega
  · exact hs n h
theorem rn_bytes : ∀ (ps : List Int) (bs : List Bool) (x1 x2 : Int) (o : List Int), Ok x1 x2 → (∀ p ∈ ps, 0 ≤ p ∧ p ≤ 4095) → (∀ c ∈ o, 0 ≤ c ∧ c < 256) → ∀ c ∈ (rn x1 x2 o ps bs).2.2, 0 ≤ c ∧ c < 256 := by
  intro ps
  induction ps with
  | nil => intro bs x1 x2 o _ _ ho; rw [rn]; exact ho
  | cons p ps ih =>
    intro bs x1 x2 o h hp ho
    cases bs with
    | nil => rw [rn]; exact ho
    | cons b bs =>
      obtain ⟨p0, p1⟩ := hp p (List.mem_cons_self ..)
      obtain ⟨y1, y2, e1, g, ok, _, el, _, _, ce⟩ := stp_ok h p0 p1 b
      rw [rn, g o]
      exact ih bs y1 y2 (o ++ e1) ok (fun q hq => hp q (List.mem_cons_of_mem _ hq)) (fun c hc => by
        rcases List.mem_append.1 hc with h | h
        · exact ho c h
        · exact ce c h)
/-- Decoding gives the bits, whatever bytes stand behind. -/
theorem decoded {ps : List Int} {bs : List Bool} (hn : ps.length = bs.length) (hp : ∀ p ∈ ps, 0 ≤ p ∧ p ≤ 4095) {s : List Int} (hs : Byts s) :
    Byts (ende (rn 0 4294967295 [] ps bs).1 (rn 0 4294967295 [] ps bs).2.2 ++ s) ∧ drn (ende (rn 0 4294967295 [] ps bs).1 (rn 0 4294967295 [] ps bs).2.2 ++ s) 0 4294967295 0 ps = bs := by
  have hb := byts_ende (x1 := (rn 0 4294967295 [] ps bs).1) (rn_bytes ps bs 0 4294967295 [] ok0 hp (fun c hc => by cases hc)) s hs
  refine ⟨hb, ?_⟩
  obtain ⟨e, he, hr⟩ := back hb ps bs 0 4294967295 0 [] hn ok0 hp (by omega)
  refine (hr ?_).2.2
  rw [List.nil_append] at he
  have m := byts_mid (ende (rn 0 4294967295 [] ps bs).1 (rn 0 4294967295 [] ps bs).2.2) [] s
  rw [List.nil_append, List.length_nil] at m
  have q : (ende (rn 0 4294967295 [] ps bs).1 (rn 0 4294967295 [] ps bs).2.2).length = e.length + 4 := by
    unfold ende
    rw [he, List.length_append]
    rfl
  rw [q] at m
  refine m.trans ?_
  unfold ende
  rw [he]
end Go.Proofs.Ytgapkifgddjijaa.Dec
namespace Go.Proofs.Ytgapkifgddjijaa.Pure
open Go Go.RowKit Go.Proofs.Ytgapkifgddjijaa.QD Go.Proofs.Ytgapkifgddjijaa.Dec Go.Proofs.Ytgapkifgddjijaa.Enc Go.Proofs.YtgapkifgddjijaaW.PrintWords Go.Proofs.YtgapkifgddjijaaW.PrintLast Go.Proofs.YtgapkifgddjijaaW.PrintMore
theorem back_j0 (ps : List Int) (bs : List Bool) (s : List Int) : bitloftlaw21_DecoderBack.j0 2030 ps bs s true true = some true := by
  rw [bitloftlaw21_DecoderBack.j0.eq_2, if_pos rfl]
theorem DecoderBack (ps : List Int) (bs : List Bool) (s : List Int) (_ : ∀ n ∈ ps, (Lit.int .i64 n).wf = true) (ws : ∀ n ∈ s, (Lit.int .u8 n).wf = true) :
    ∃ k, bitloftlaw21_DecoderBack.f k ps bs s = some true := by
  refine ⟨2030, ?_⟩
  unfold bitloftlaw21_DecoderBack.f
  rw [alive21 (by decide), Option.bind_some]
  by_cases c : (bs.length : Int) > 100
  · rw [if_pos c]; exact back_j0 _ _ _
  rw [if_neg c, Probs_ok (by decide), Option.bind_some]
  by_cases d : prs ps bs.length = 0
  rotate_left
  · rw [if_neg d]; exact back_j0 _ _ _
  rw [if_pos d]
  by_cases e : (s.length : Int) > 20
  · rw [if_pos e]; exact back_j0 _ _ _
  rw [if_neg e, Bool.not_true]
  obtain ⟨h1, h2, h3⟩ := prs_zero d
  have ha : ps.all prb = true := List.all_eq_true.2 (fun p h => (prb_iff p).2 (h3 p h))
  obtain ⟨_, t, ht, tl⟩ := rn_ok ps bs 0 4294967295 [] ok0 h3
  have run : encoder_Run.f 2029 ps bs = some (ende (rn 0 4294967295 [] ps bs).1 (rn 0 4294967295 [] ps bs).2.2, 0) := by
    have a : encoder_Run.f 2029 ps bs = some (rund ps bs) := Runf_ok (by decide) ps bs
    rw [a]
    unfold rund
    rw [if_pos d]
  have ll : (ende (rn 0 4294967295 [] ps bs).1 (rn 0 4294967295 [] ps bs).2.2).length ≤ 404 := by
    unfold ende
    rw [ht, List.nil_append, List.length_append]
    simp only [List.length_cons, List.length_nil]
    omega
  obtain ⟨g0, g1⟩ := decoded h2 h3 (s := []) (fun n hn => by cases hn)
  obtain ⟨g2, g3⟩ := decoded h2 h3 (byts_wf ws)
  rw [List.append_nil] at g0 g1
  generalize ende (rn 0 4294967295 [] ps bs).1 (rn 0 4294967295 [] ps bs).2.2 = v at run ll g0 g1 g2 g3
  have one : decoder_Run.f 2029 v ps = some (bs, 0) := by
    have a : decoder_Run.f 2029 v ps = some (rdd v ps) := RunDf_ok g0 (by decide) ps
    rw [a]
    unfold rdd
    rw [if_neg (by omega), if_neg (by omega), if_pos ha, g1]
  have two : decoder_Run.f 2029 (v ++ s) ps = some (bs, 0) := by
    have a : decoder_Run.f 2029 (v ++ s) ps = some (rdd (v ++ s) ps) := RunDf_ok g2 (by decide) ps
    rw [a]
    unfold rdd
    rw [if_neg (by rw [List.length_append]; omega), if_neg (by omega), if_pos ha, g3]
  rw [bitloftlaw21_DecoderBack.j0.eq_2, if_neg (by decide), run, Option.bind_some, one, Option.bind_some, Option.bind_some, if_pos (by show ([] : List Int).length + v.length < 140737488355328; rw [List.length_nil]; omega), List.nil_append, Option.bind_some, if_pos (by show v.length + s.length < 140737488355328; omega), two, Option.bind_some, if_pos rfl, if_pos rfl, if_pos rfl, if_pos rfl, Same_ok bs (by omega) (by omega), Option.bind_some, if_pos rfl, Option.bind_some]
end Go.Proofs.Ytgapkifgddjijaa.Pure
