/-
  No cell of these rows narrows 'for every input' (looked for: loops, veiled, ifaces, maps, wideKeys, modest, calm, conditions, laid).
  DERIVED. THE GIVEN ROWS OF THIS SEAT. 5 by the template 'for every input the law returns true; each argument reads behind the call as it read before'; 0 by the template 'total and deterministic' (their statements: YtnbfpchbaghmfaaTotals.lean).
  GIVEN WITH THE SEED: the statements are not yours to turn. If you find one false, say at which input.
  Laid BY PROGRAM, IN A SANDBOX (cutbox-rows.mjs): the forced cells as the released guide's own fill.sh prints them over the translation 2c9abdcfd62bc0c0… (all of the seat's roots in one cut). By AI agents, Wed Nov 11 2026. No macro, syntax, notation, axiom, sorry.
-/
import Derived.Test.YtnbfpchbaghmfaaChecked
import GoSem.Claim
import GoSem.ClaimJoined
import GoSem.ClaimMapViews
import Derived.JoinedTies
import Derived.KernelRfl
namespace Go.Proofs.Ytnbfpchbaghmfaa
/- THE CELL 'sum', in the pinned program and in every row, IS THE sha256 OF THE DUMP (.gsa) THAT YtnbfpchbaghmfaaProg.lean LOADS. Nothing in Lean hashes anything: it is a label: what it is worth is what the hold of that sum in a sandbox is worth. -/
noncomputable def Try.pinned : Pinned := { name := "ytnbfpchbaghmfaa", sum := "2c9abdcfd62bc0c02a9753498496a554366316b02d8a1de3fa08e0f92541f0ce", checked := Try.checked }
namespace Rows
def none {H : Type} : Left H := { results := [], args := [] }

/-- 'bitloftlaw14.NibbleNode': WHATEVER THE INPUT: true; the input reads as it did. -/
def nibbleNodeSpec : ChangeSpec := { name := "nibbleNode", fn := fun _ => fun
  | [d1, d2] => { results := [.lit (.bool true)], args := [d1, d2] }
  | _ => none }
def nibbleNodeRow : OpenClaim := { program := "ytnbfpchbaghmfaa", sum := "2c9abdcfd62bc0c02a9753498496a554366316b02d8a1de3fa08e0f92541f0ce", func := "bitloft/bitloftlaw14.NibbleNode", spec := "nibbleNode", apart := false }
def NibbleNodeSaid : Prop := nibbleNodeRow.holds Try.pinned (OpenSpec.ofChange nibbleNodeSpec)

/-- ITS FALSE NEIGHBOUR: 'it returns false'. Refute it at one input. -/
def nibbleNodeWrong : ChangeSpec := { name := "nibbleNode", fn := fun _ => fun
  | [d1, d2] => { results := [.lit (.bool false)], args := [d1, d2] }
  | _ => none }
def NibbleNodeWrongFalsely : Prop := nibbleNodeRow.holds Try.pinned (OpenSpec.ofChange nibbleNodeWrong)

/-- 'bitloftlaw14.NibbleBytes': WHATEVER THE INPUT: true; the input reads as it did. -/
def nibbleBytesSpec : ChangeSpec := { name := "nibbleBytes", fn := fun _ => fun
  | [d] => { results := [.lit (.bool true)], args := [d] }
  | _ => none }
def nibbleBytesRow : OpenClaim := { program := "ytnbfpchbaghmfaa", sum := "2c9abdcfd62bc0c02a9753498496a554366316b02d8a1de3fa08e0f92541f0ce", func := "bitloft/bitloftlaw14.NibbleBytes", spec := "nibbleBytes", apart := false }
def NibbleBytesSaid : Prop := nibbleBytesRow.holds Try.pinned (OpenSpec.ofChange nibbleBytesSpec)

/-- ITS FALSE NEIGHBOUR: 'it returns false'. Refute it at one input. -/
def nibbleBytesWrong : ChangeSpec := { name := "nibbleBytes", fn := fun _ => fun
  | [d] => { results := [.lit (.bool false)], args := [d] }
  | _ => none }
def NibbleBytesWrongFalsely : Prop := nibbleBytesRow.holds Try.pinned (OpenSpec.ofChange nibbleBytesWrong)

/-- 'bitloftlaw14.NibbleWalks': WHATEVER THE INPUT: true; the input reads as it did. -/
def nibbleWalksSpec : ChangeSpec := { name := "nibbleWalks", fn := fun _ => fun
  | [d1, d2, d3, d4] => { results := [.lit (.bool true)], args := [d1, d2, d3, d4] }
  | _ => none }
def nibbleWalksRow : OpenClaim := { program := "ytnbfpchbaghmfaa", sum := "2c9abdcfd62bc0c02a9753498496a554366316b02d8a1de3fa08e0f92541f0ce", func := "bitloft/bitloftlaw14.NibbleWalks", spec := "nibbleWalks", recurses := true, apart := false }
def NibbleWalksSaid : Prop := nibbleWalksRow.holds Try.pinned (OpenSpec.ofChange nibbleWalksSpec)

/-- ITS FALSE NEIGHBOUR: 'it returns false'. Refute it at one input. -/
def nibbleWalksWrong : ChangeSpec := { name := "nibbleWalks", fn := fun _ => fun
  | [d1, d2, d3, d4] => { results := [.lit (.bool false)], args := [d1, d2, d3, d4] }
  | _ => none }
def NibbleWalksWrongFalsely : Prop := nibbleWalksRow.holds Try.pinned (OpenSpec.ofChange nibbleWalksWrong)

/-- 'bitloftlaw14.NibbleNames': WHATEVER THE INPUT: true; the input reads as it did. -/
def nibbleNamesSpec : ChangeSpec := { name := "nibbleNames", fn := fun _ => fun
  | [] => { results := [.lit (.bool true)], args := [] }
  | _ => none }
def nibbleNamesRow : OpenClaim := { program := "ytnbfpchbaghmfaa", sum := "2c9abdcfd62bc0c02a9753498496a554366316b02d8a1de3fa08e0f92541f0ce", func := "bitloft/bitloftlaw14.NibbleNames", spec := "nibbleNames", apart := false }
def NibbleNamesSaid : Prop := nibbleNamesRow.holds Try.pinned (OpenSpec.ofChange nibbleNamesSpec)

/-- ITS FALSE NEIGHBOUR: 'it returns false'. Refute it at one input. -/
def nibbleNamesWrong : ChangeSpec := { name := "nibbleNames", fn := fun _ => fun
  | [] => { results := [.lit (.bool false)], args := [] }
  | _ => none }
def NibbleNamesWrongFalsely : Prop := nibbleNamesRow.holds Try.pinned (OpenSpec.ofChange nibbleNamesWrong)

/-- 'bitloftlaw14.NibbleBack': WHATEVER THE INPUT: true; the input reads as it did. -/
def nibbleBackSpec : ChangeSpec := { name := "nibbleBack", fn := fun _ => fun
  | [d1, d2] => { results := [.lit (.bool true)], args := [d1, d2] }
  | _ => none }
def nibbleBackRow : OpenClaim := { program := "ytnbfpchbaghmfaa", sum := "2c9abdcfd62bc0c02a9753498496a554366316b02d8a1de3fa08e0f92541f0ce", func := "bitloft/bitloftlaw14.NibbleBack", spec := "nibbleBack", apart := false }
def NibbleBackSaid : Prop := nibbleBackRow.holds Try.pinned (OpenSpec.ofChange nibbleBackSpec)

/-- ITS FALSE NEIGHBOUR: 'it returns false'. Refute it at one input. -/
def nibbleBackWrong : ChangeSpec := { name := "nibbleBack", fn := fun _ => fun
  | [d1, d2] => { results := [.lit (.bool false)], args := [d1, d2] }
  | _ => none }
def NibbleBackWrongFalsely : Prop := nibbleBackRow.holds Try.pinned (OpenSpec.ofChange nibbleBackWrong)

/- THE SECOND FORM. 'bulk': how many values and letters a reading holds, each counted each time it is reached (what is shared counts as often as it is met; a slice's spare places count too). A statement '..UptoSaid' is the law's where the arguments, and the package variables that the reading takes, are together of bulk at most 1048576: NARROWER than '..Said'. Prove '..Said' where nothing that the law and all that it calls make is longer than what came in: it says more and counts as full. Else prove '..UptoSaid'. A law counts once. -/
mutual
def uptoBulk {H : Type} : DataW H → Nat
  | .lit (.string bytes) => bytes.length + 1
  | .lit _ => 1
  | .nil => 1
  | .ptr d => uptoBulk d + 1
  | .slice elems spare => uptoBulkAll elems + uptoBulkAll spare + 1
  | .agg parts => uptoBulkAll parts + 1
  | .iface _ d => uptoBulk d + 1
  | .map entries => uptoBulkEntries entries + 1
  | .held _ => 1
def uptoBulkAll {H : Type} : List (DataW H) → Nat
  | [] => 0
  | d :: r => uptoBulk d + uptoBulkAll r
def uptoBulkEntries {H : Type} : List (Lit × DataW H) → Nat
  | [] => 0
  | x :: r => uptoBulkEntry x + uptoBulkEntries r
def uptoBulkEntry {H : Type} : Lit × DataW H → Nat
  | (.string bytes, d) => bytes.length + uptoBulk d + 1
  | (_, d) => uptoBulk d + 1
 end
def uptoSmall : (H : Type) → List (DataW H) → Bool := fun _ ds => decide (uptoBulkAll ds ≤ 1048576)
def OpenSpec.upto (s : _root_.Go.ChangeSpec) : _root_.Go.OpenSpec := { _root_.Go.OpenSpec.ofChange s with cond := some uptoSmall }

/-- 'bitloftlaw14.NibbleNode', WHERE WHAT IT READS IS OF BULK AT MOST 1048576: true; the input reads as it did. -/
def nibbleNodeUptoRow : OpenClaim := { program := "ytnbfpchbaghmfaa", sum := "2c9abdcfd62bc0c02a9753498496a554366316b02d8a1de3fa08e0f92541f0ce", func := "bitloft/bitloftlaw14.NibbleNode", spec := "nibbleNode", apart := false, narrowed := true }
def NibbleNodeUptoSaid : Prop := nibbleNodeUptoRow.holds Try.pinned (OpenSpec.upto nibbleNodeSpec)

/-- 'bitloftlaw14.NibbleBytes', WHERE WHAT IT READS IS OF BULK AT MOST 1048576: true; the input reads as it did. -/
def nibbleBytesUptoRow : OpenClaim := { program := "ytnbfpchbaghmfaa", sum := "2c9abdcfd62bc0c02a9753498496a554366316b02d8a1de3fa08e0f92541f0ce", func := "bitloft/bitloftlaw14.NibbleBytes", spec := "nibbleBytes", apart := false, narrowed := true }
def NibbleBytesUptoSaid : Prop := nibbleBytesUptoRow.holds Try.pinned (OpenSpec.upto nibbleBytesSpec)

/-- 'bitloftlaw14.NibbleWalks', WHERE WHAT IT READS IS OF BULK AT MOST 1048576: true; the input reads as it did. -/
def nibbleWalksUptoRow : OpenClaim := { program := "ytnbfpchbaghmfaa", sum := "2c9abdcfd62bc0c02a9753498496a554366316b02d8a1de3fa08e0f92541f0ce", func := "bitloft/bitloftlaw14.NibbleWalks", spec := "nibbleWalks", recurses := true, apart := false, narrowed := true }
def NibbleWalksUptoSaid : Prop := nibbleWalksUptoRow.holds Try.pinned (OpenSpec.upto nibbleWalksSpec)

/-- 'bitloftlaw14.NibbleNames', WHERE WHAT IT READS IS OF BULK AT MOST 1048576: true; the input reads as it did. -/
def nibbleNamesUptoRow : OpenClaim := { program := "ytnbfpchbaghmfaa", sum := "2c9abdcfd62bc0c02a9753498496a554366316b02d8a1de3fa08e0f92541f0ce", func := "bitloft/bitloftlaw14.NibbleNames", spec := "nibbleNames", apart := false, narrowed := true }
def NibbleNamesUptoSaid : Prop := nibbleNamesUptoRow.holds Try.pinned (OpenSpec.upto nibbleNamesSpec)

/-- 'bitloftlaw14.NibbleBack', WHERE WHAT IT READS IS OF BULK AT MOST 1048576: true; the input reads as it did. -/
def nibbleBackUptoRow : OpenClaim := { program := "ytnbfpchbaghmfaa", sum := "2c9abdcfd62bc0c02a9753498496a554366316b02d8a1de3fa08e0f92541f0ce", func := "bitloft/bitloftlaw14.NibbleBack", spec := "nibbleBack", apart := false, narrowed := true }
def NibbleBackUptoSaid : Prop := nibbleBackUptoRow.holds Try.pinned (OpenSpec.upto nibbleBackSpec)

end Rows
end Go.Proofs.Ytnbfpchbaghmfaa
