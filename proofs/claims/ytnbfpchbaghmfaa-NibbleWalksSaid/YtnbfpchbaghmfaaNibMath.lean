/- What the walks of a nibble are: facts of each of the 255 walks, of each byte, and of each list of at most seven bits, reckoned one by one. -/
import Derived.Test.YtnbfpchbaghmfaaQN1x3
import Derived.Test.YtnbfpchbaghmfaaQN1x4
import Derived.Test.YtnbfpchbaghmfaaQN1x5
import Derived.IntWalk
import Derived.OpenShut
namespace Go.Proofs.Ytnbfpchbaghmfaa.Nib
open Go Go.RowKit Go.Proofs.Ytnbfpchbaghmfaa.QN1 Go.Proofs.YtnbfpchbaghmfaaW.PrintWords Go.Proofs.YtnbfpchbaghmfaaW.PrintLast Go.Proofs.YtnbfpchbaghmfaaW.PrintMore

/-- Two lists are the same: what the reference says. -/
theorem Same_l0 (p q : List Bool) (hl : p.length = q.length) (hb : p.length < 4611686018427387904) : ∀ (d k i : Nat), i + d = p.length → d < k → bitloftref14_Same.l0 k p q (i : Int) = some (decide (p.drop i = q.drop i)) := by
  intro d
  induction d with
  | zero =>
    intro k i hi hk
    obtain ⟨k, rfl⟩ : ∃ m, k = m + 1 := ⟨k - 1, by omega⟩
    rw [bitloftref14_Same.l0.eq_2, if_neg (by omega), List.drop_eq_nil_of_le (by omega), List.drop_eq_nil_of_le (by omega)]
    rfl
  | succ d ih =>
    intro k i hi hk
    obtain ⟨k, rfl⟩ : ∃ m, k = m + 1 := ⟨k - 1, by omega⟩
    have hp : i < p.length := by omega
    have hq : i < q.length := by omega
    have ep : rdOf false p (i : Int) = p[i] := by
      unfold rdOf
      rw [Int.toNat_natCast, List.getD_eq_getElem?_getD, List.getElem?_eq_getElem hp]
      rfl
    have eq : rdOf false q (i : Int) = q[i] := by
      unfold rdOf
      rw [Int.toNat_natCast, List.getD_eq_getElem?_getD, List.getElem?_eq_getElem hq]
      rfl
    rw [bitloftref14_Same.l0.eq_2, if_pos (by omega), if_pos (by omega), if_pos (by omega), ep, eq, List.drop_eq_getElem_cons hp, List.drop_eq_getElem_cons hq]
    by_cases c : p[i] = q[i]
    · rw [c, bne_self_eq_false, if_neg (by decide), IntWalk.wrap64_in _ (by omega), show (i : Int) + 1 = ((i + 1 : Nat) : Int) by omega, ih k (i + 1) (by omega) (by omega)]
      refine congrArg some (decide_eq_decide.2 ⟨fun h => by rw [h], fun h => ?_⟩)
      injection h
    · rw [if_pos (bne_iff_ne.2 c)]
      exact congrArg some (decide_eq_false (fun h => c (by injection h))).symm
theorem Same_ok (p q : List Bool) (hb : p.length < 4611686018427387904) {k : Nat} (hk : p.length < k) : bitloftref14_Same.f k p q = some (decide (p = q)) := by
  unfold bitloftref14_Same.f
  by_cases c : p.length = q.length
  · rw [if_pos (by omega)]
    have := Same_l0 p q c hb p.length k 0 (by omega) hk
    rw [List.drop_zero, List.drop_zero] at this
    exact this
  · rw [if_neg (by omega)]
    exact congrArg some (decide_eq_false (fun e => c (by rw [e]))).symm

/-- All lists of at most so many bits. -/
def lists : Nat → List (List Bool)
  | 0 => [[]]
  | n + 1 => [] :: (lists n).flatMap fun l => [false :: l, true :: l]
theorem mem_lists : ∀ (n : Nat) (l : List Bool), l.length ≤ n → l ∈ lists n := by
  intro n
  induction n with
  | zero => intro l h; obtain rfl : l = [] := List.length_eq_zero_iff.1 (by omega); exact List.mem_cons_self ..
  | succ n ih =>
    intro l h
    cases l with
    | nil => exact List.mem_cons_self ..
    | cons b l =>
      rw [List.length_cons] at h
      refine List.mem_cons_of_mem _ (List.mem_flatMap.2 ⟨l, ih l (by omega), ?_⟩)
      cases b <;> simp
/-- The node of a walk. -/
def nd (v : Int) : Int := match nibble_Node.f 40 v with | some (n, _) => n | none => 0
/-- The bits of a walk. -/
def bts (v : Int) : List Bool := match nibble_Bits.f 40 v with | some (p, _) => p | none => []
/-- The bits of the walk's nibble. -/
def rst (v : Int) : List Bool := if v > 15 then (bts v).drop 4 else bts v
def okW (v : Int) : Bool := decide (nibble_Node.f 40 v = some (nd v, 0)) && decide (nibble_Bits.f 40 v = some (bts v, 0)) && decide (1 ≤ nd v) && decide (nd v ≤ 15) && (decide (v > 15) == decide (4 ≤ (bts v).length)) && decide ((bts v).length ≤ 7) && decide (bitloftref14_Part.f 40 (rst v) = some (nd v)) && decide (rst v = bts (nd v)) && decide (nibble_Of.f 40 (bts v) = some (v, 0))
set_option maxRecDepth 100000 in
theorem okW_all : ∀ n : Fin 256, 1 ≤ n.val → okW (n.val : Int) = true := by decide +kernel
structure Wk (v : Int) : Prop where
  node : nibble_Node.f 40 v = some (nd v, 0)
  bits : nibble_Bits.f 40 v = some (bts v, 0)
  lo : 1 ≤ nd v
  hi : nd v ≤ 15
  second : decide (v > 15) = decide (4 ≤ (bts v).length)
  len : (bts v).length ≤ 7
  part : bitloftref14_Part.f 40 (rst v) = some (nd v)
  rest : rst v = bts (nd v)
  of : nibble_Of.f 40 (bts v) = some (v, 0)
theorem wk {v : Int} (h1 : 1 ≤ v) (h2 : v ≤ 255) : Wk v := by
  have h := okW_all ⟨v.toNat, by omega⟩ (by show 1 ≤ v.toNat; omega)
  rw [show (((⟨v.toNat, by omega⟩ : Fin 256).val : Nat) : Int) = v by show ((v.toNat : Nat) : Int) = v; omega] at h
  simp only [okW, Bool.and_eq_true, decide_eq_true_eq, beq_iff_eq] at h
  obtain ⟨⟨⟨⟨⟨⟨⟨⟨a, b⟩, c⟩, d⟩, e⟩, f⟩, g⟩, i⟩, j⟩ := h
  exact ⟨a, b, c, d, e, f, g, i, j⟩
theorem chk_ok {v : Int} (h1 : 1 ≤ v) (h2 : v ≤ 255) : bitloftref14_Check.f v = some 0 ∧ nibble_Check.f v = some 0 := by
  unfold bitloftref14_Check.f nibble_Check.f
  rw [if_neg (by omega), if_neg (by omega)]
  exact ⟨rfl, rfl⟩
theorem chk_no {v : Int} (h : v < 1 ∨ 255 < v) : bitloftref14_Check.f v = some 8 ∧ nibble_Check.f v = some 8 := by
  unfold bitloftref14_Check.f nibble_Check.f
  by_cases c : v < 1
  · rw [if_pos c]
    exact ⟨rfl, rfl⟩
  · rw [if_neg c, if_pos (by omega)]
    exact ⟨rfl, rfl⟩
theorem second_ok {v : Int} (h1 : 1 ≤ v) (h2 : v ≤ 255) : nibble_Second.f v = some (decide (v > 15), 0) := by
  unfold nibble_Second.f
  rw [(chk_ok h1 h2).2, Option.bind_some, if_pos rfl]
theorem alive14 {K : Nat} (hK : 40 ≤ K) : bitloftlaw14_alive.f K = some true := at_rounds bitloftlaw14_alive.mono hK (by decide +kernel)
theorem up {α : Type} {f : Nat → Option α} {r : α} (hm : ∀ k, LeO (f k) (f (k + 1))) {K : Nat} (hK : 40 ≤ K) (h : f 40 = some r) : f K = some r := at_rounds hm hK h
end Go.Proofs.Ytnbfpchbaghmfaa.Nib
