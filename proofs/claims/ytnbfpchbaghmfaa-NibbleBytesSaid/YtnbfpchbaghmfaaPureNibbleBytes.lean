/- NibbleBytes: eight steps with the bits of a byte give this byte, reckoned for each of the 256. -/
import Derived.OpenShut
import Derived.Test.YtnbfpchbaghmfaaQN2x5
namespace Go.Proofs.Ytnbfpchbaghmfaa.Pure
open Go Go.RowKit Go.Proofs.Ytnbfpchbaghmfaa.QN2 Go.Proofs.YtnbfpchbaghmfaaW.PrintWords Go.Proofs.YtnbfpchbaghmfaaW.PrintLast
set_option maxRecDepth 100000 in
theorem bytes_all : ∀ n : Fin 256, bitloftlaw14_NibbleBytes.f 60 (n.val : Int) = some true := by decide +kernel
theorem NibbleBytes : bitloftlaw14_NibbleBytes.Pure := by
  intro b wb
  obtain ⟨b0, b1⟩ := bounds_u8 wb
  have h := bytes_all ⟨b.toNat, by omega⟩
  rw [show (((⟨b.toNat, by omega⟩ : Fin 256).val : Nat) : Int) = b by show ((b.toNat : Nat) : Int) = b; omega] at h
  exact ⟨60, h⟩
end Go.Proofs.Ytnbfpchbaghmfaa.Pure
