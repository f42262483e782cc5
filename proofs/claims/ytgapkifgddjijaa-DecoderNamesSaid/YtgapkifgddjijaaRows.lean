/-
  No cell of these rows narrows 'for every input' (looked for: loops, veiled, ifaces, maps, wideKeys, modest, calm, conditions, laid).
  DERIVED. THE GIVEN ROWS OF THIS SEAT. 19 by the template 'for every input the law returns true; each argument reads behind the call as it read before'; 0 by the template 'total and deterministic' (their statements: YtgapkifgddjijaaTotals.lean).
  GIVEN WITH THE SEED: the statements are not yours to turn. If you find one false, say at which input.
  Laid BY PROGRAM, IN A SANDBOX (cutbox-rows.mjs): the forced cells as the released guide's own fill.sh prints them over the translation bd4a346fa7f11323… (all of the seat's roots in one cut). By AI agents, Wed Nov 11 2026. No macro, syntax, notation, axiom, sorry.
-/
import Derived.Test.YtgapkifgddjijaaChecked
import GoSem.Claim
import GoSem.ClaimJoined
import GoSem.ClaimMapViews
import Derived.JoinedTies
import Derived.KernelRfl
namespace Go.Proofs.Ytgapkifgddjijaa
/- THE CELL 'sum', in the pinned program and in every row, IS THE sha256 OF THE DUMP (.gsa) THAT YtgapkifgddjijaaProg.lean LOADS. Nothing in Lean hashes anything: it is a label: what it is worth is what the hold of that sum in a sandbox is worth. -/
noncomputable def Try.pinned : Pinned := { name := "ytgapkifgddjijaa", sum := "bd4a346fa7f11323cbfee8c427c8811358a1253050b00c5464801600bb67bc1f", checked := Try.checked }
namespace Rows
def none {H : Type} : Left H := { results := [], args := [] }

/-- 'bitloftlaw23.CostLogs': WHATEVER THE INPUT: true; the input reads as it did. -/
def costLogsSpec : ChangeSpec := { name := "costLogs", fn := fun _ => fun
  | [d1, d2] => { results := [.lit (.bool true)], args := [d1, d2] }
  | _ => none }
def costLogsRow : OpenClaim := { program := "ytgapkifgddjijaa", sum := "bd4a346fa7f11323cbfee8c427c8811358a1253050b00c5464801600bb67bc1f", func := "bitloft/bitloftlaw23.CostLogs", spec := "costLogs", apart := false }
def CostLogsSaid : Prop := costLogsRow.holds Try.pinned (OpenSpec.ofChange costLogsSpec)

/-- ITS FALSE NEIGHBOUR: 'it returns false'. Refute it at one input. -/
def costLogsWrong : ChangeSpec := { name := "costLogs", fn := fun _ => fun
  | [d1, d2] => { results := [.lit (.bool false)], args := [d1, d2] }
  | _ => none }
def CostLogsWrongFalsely : Prop := costLogsRow.holds Try.pinned (OpenSpec.ofChange costLogsWrong)

/-- 'bitloftlaw20.EncoderRuns': WHATEVER THE INPUT: true; the input reads as it did. -/
def encoderRunsSpec : ChangeSpec := { name := "encoderRuns", fn := fun _ => fun
  | [d1, d2] => { results := [.lit (.bool true)], args := [d1, d2] }
  | _ => none }
def encoderRunsRow : OpenClaim := { program := "ytgapkifgddjijaa", sum := "bd4a346fa7f11323cbfee8c427c8811358a1253050b00c5464801600bb67bc1f", func := "bitloft/bitloftlaw20.EncoderRuns", spec := "encoderRuns", unfollowed := true, recurses := true, apart := false }
def EncoderRunsSaid : Prop := encoderRunsRow.holds Try.pinned (OpenSpec.ofChange encoderRunsSpec)

/-- ITS FALSE NEIGHBOUR: 'it returns false'. Refute it at one input. -/
def encoderRunsWrong : ChangeSpec := { name := "encoderRuns", fn := fun _ => fun
  | [d1, d2] => { results := [.lit (.bool false)], args := [d1, d2] }
  | _ => none }
def EncoderRunsWrongFalsely : Prop := encoderRunsRow.holds Try.pinned (OpenSpec.ofChange encoderRunsWrong)

/-- 'bitloftlaw20.EncoderSplits': WHATEVER THE INPUT: true; the input reads as it did. -/
def encoderSplitsSpec : ChangeSpec := { name := "encoderSplits", fn := fun _ => fun
  | [d1, d2, d3, d4] => { results := [.lit (.bool true)], args := [d1, d2, d3, d4] }
  | _ => none }
def encoderSplitsRow : OpenClaim := { program := "ytgapkifgddjijaa", sum := "bd4a346fa7f11323cbfee8c427c8811358a1253050b00c5464801600bb67bc1f", func := "bitloft/bitloftlaw20.EncoderSplits", spec := "encoderSplits", unfollowed := true, recurses := true, apart := false }
def EncoderSplitsSaid : Prop := encoderSplitsRow.holds Try.pinned (OpenSpec.ofChange encoderSplitsSpec)

/-- ITS FALSE NEIGHBOUR: 'it returns false'. Refute it at one input. -/
def encoderSplitsWrong : ChangeSpec := { name := "encoderSplits", fn := fun _ => fun
  | [d1, d2, d3, d4] => { results := [.lit (.bool false)], args := [d1, d2, d3, d4] }
  | _ => none }
def EncoderSplitsWrongFalsely : Prop := encoderSplitsRow.holds Try.pinned (OpenSpec.ofChange encoderSplitsWrong)

/-- 'bitloftlaw20.EncoderPuts': WHATEVER THE INPUT: true; the input reads as it did. -/
def encoderPutsSpec : ChangeSpec := { name := "encoderPuts", fn := fun _ => fun
  | [d1, d2, d3, d4, d5] => { results := [.lit (.bool true)], args := [d1, d2, d3, d4, d5] }
  | _ => none }
def encoderPutsRow : OpenClaim := { program := "ytgapkifgddjijaa", sum := "bd4a346fa7f11323cbfee8c427c8811358a1253050b00c5464801600bb67bc1f", func := "bitloft/bitloftlaw20.EncoderPuts", spec := "encoderPuts", apart := false }
def EncoderPutsSaid : Prop := encoderPutsRow.holds Try.pinned (OpenSpec.ofChange encoderPutsSpec)

/-- ITS FALSE NEIGHBOUR: 'it returns false'. Refute it at one input. -/
def encoderPutsWrong : ChangeSpec := { name := "encoderPuts", fn := fun _ => fun
  | [d1, d2, d3, d4, d5] => { results := [.lit (.bool false)], args := [d1, d2, d3, d4, d5] }
  | _ => none }
def EncoderPutsWrongFalsely : Prop := encoderPutsRow.holds Try.pinned (OpenSpec.ofChange encoderPutsWrong)

/-- 'bitloftlaw21.DecoderRuns': WHATEVER THE INPUT: true; the input reads as it did. -/
def decoderRunsSpec : ChangeSpec := { name := "decoderRuns", fn := fun _ => fun
  | [d1, d2] => { results := [.lit (.bool true)], args := [d1, d2] }
  | _ => none }
def decoderRunsRow : OpenClaim := { program := "ytgapkifgddjijaa", sum := "bd4a346fa7f11323cbfee8c427c8811358a1253050b00c5464801600bb67bc1f", func := "bitloft/bitloftlaw21.DecoderRuns", spec := "decoderRuns", unfollowed := true, recurses := true, apart := false }
def DecoderRunsSaid : Prop := decoderRunsRow.holds Try.pinned (OpenSpec.ofChange decoderRunsSpec)

/-- ITS FALSE NEIGHBOUR: 'it returns false'. Refute it at one input. -/
def decoderRunsWrong : ChangeSpec := { name := "decoderRuns", fn := fun _ => fun
  | [d1, d2] => { results := [.lit (.bool false)], args := [d1, d2] }
  | _ => none }
def DecoderRunsWrongFalsely : Prop := decoderRunsRow.holds Try.pinned (OpenSpec.ofChange decoderRunsWrong)

/-- 'bitloftlaw23.CostOnes': WHATEVER THE INPUT: true; the input reads as it did. -/
def costOnesSpec : ChangeSpec := { name := "costOnes", fn := fun _ => fun
  | [d1, d2, d3, d4, d5] => { results := [.lit (.bool true)], args := [d1, d2, d3, d4, d5] }
  | _ => none }
def costOnesRow : OpenClaim := { program := "ytgapkifgddjijaa", sum := "bd4a346fa7f11323cbfee8c427c8811358a1253050b00c5464801600bb67bc1f", func := "bitloft/bitloftlaw23.CostOnes", spec := "costOnes", apart := false }
def CostOnesSaid : Prop := costOnesRow.holds Try.pinned (OpenSpec.ofChange costOnesSpec)

/-- ITS FALSE NEIGHBOUR: 'it returns false'. Refute it at one input. -/
def costOnesWrong : ChangeSpec := { name := "costOnes", fn := fun _ => fun
  | [d1, d2, d3, d4, d5] => { results := [.lit (.bool false)], args := [d1, d2, d3, d4, d5] }
  | _ => none }
def CostOnesWrongFalsely : Prop := costOnesRow.holds Try.pinned (OpenSpec.ofChange costOnesWrong)

/-- 'bitloftlaw23.CostIdeal': WHATEVER THE INPUT: true; the input reads as it did. -/
def costIdealSpec : ChangeSpec := { name := "costIdeal", fn := fun _ => fun
  | [d1, d2, d3, d4] => { results := [.lit (.bool true)], args := [d1, d2, d3, d4] }
  | _ => none }
def costIdealRow : OpenClaim := { program := "ytgapkifgddjijaa", sum := "bd4a346fa7f11323cbfee8c427c8811358a1253050b00c5464801600bb67bc1f", func := "bitloft/bitloftlaw23.CostIdeal", spec := "costIdeal", apart := false }
def CostIdealSaid : Prop := costIdealRow.holds Try.pinned (OpenSpec.ofChange costIdealSpec)

/-- ITS FALSE NEIGHBOUR: 'it returns false'. Refute it at one input. -/
def costIdealWrong : ChangeSpec := { name := "costIdeal", fn := fun _ => fun
  | [d1, d2, d3, d4] => { results := [.lit (.bool false)], args := [d1, d2, d3, d4] }
  | _ => none }
def CostIdealWrongFalsely : Prop := costIdealRow.holds Try.pinned (OpenSpec.ofChange costIdealWrong)

/-- 'bitloftlaw20.EncoderRange': WHATEVER THE INPUT: true; the input reads as it did. -/
def encoderRangeSpec : ChangeSpec := { name := "encoderRange", fn := fun _ => fun
  | [d1, d2] => { results := [.lit (.bool true)], args := [d1, d2] }
  | _ => none }
def encoderRangeRow : OpenClaim := { program := "ytgapkifgddjijaa", sum := "bd4a346fa7f11323cbfee8c427c8811358a1253050b00c5464801600bb67bc1f", func := "bitloft/bitloftlaw20.EncoderRange", spec := "encoderRange", unfollowed := true, recurses := true, apart := false }
def EncoderRangeSaid : Prop := encoderRangeRow.holds Try.pinned (OpenSpec.ofChange encoderRangeSpec)

/-- ITS FALSE NEIGHBOUR: 'it returns false'. Refute it at one input. -/
def encoderRangeWrong : ChangeSpec := { name := "encoderRange", fn := fun _ => fun
  | [d1, d2] => { results := [.lit (.bool false)], args := [d1, d2] }
  | _ => none }
def EncoderRangeWrongFalsely : Prop := encoderRangeRow.holds Try.pinned (OpenSpec.ofChange encoderRangeWrong)

/-- 'bitloftlaw21.DecoderGets': WHATEVER THE INPUT: true; the input reads as it did. -/
def decoderGetsSpec : ChangeSpec := { name := "decoderGets", fn := fun _ => fun
  | [d1, d2] => { results := [.lit (.bool true)], args := [d1, d2] }
  | _ => none }
def decoderGetsRow : OpenClaim := { program := "ytgapkifgddjijaa", sum := "bd4a346fa7f11323cbfee8c427c8811358a1253050b00c5464801600bb67bc1f", func := "bitloft/bitloftlaw21.DecoderGets", spec := "decoderGets", apart := false }
def DecoderGetsSaid : Prop := decoderGetsRow.holds Try.pinned (OpenSpec.ofChange decoderGetsSpec)

/-- ITS FALSE NEIGHBOUR: 'it returns false'. Refute it at one input. -/
def decoderGetsWrong : ChangeSpec := { name := "decoderGets", fn := fun _ => fun
  | [d1, d2] => { results := [.lit (.bool false)], args := [d1, d2] }
  | _ => none }
def DecoderGetsWrongFalsely : Prop := decoderGetsRow.holds Try.pinned (OpenSpec.ofChange decoderGetsWrong)

/-- 'bitloftlaw20.EncoderNames': WHATEVER THE INPUT: true; the input reads as it did. -/
def encoderNamesSpec : ChangeSpec := { name := "encoderNames", fn := fun _ => fun
  | [] => { results := [.lit (.bool true)], args := [] }
  | _ => none }
def encoderNamesRow : OpenClaim := { program := "ytgapkifgddjijaa", sum := "bd4a346fa7f11323cbfee8c427c8811358a1253050b00c5464801600bb67bc1f", func := "bitloft/bitloftlaw20.EncoderNames", spec := "encoderNames", unfollowed := true, recurses := true, apart := false }
def EncoderNamesSaid : Prop := encoderNamesRow.holds Try.pinned (OpenSpec.ofChange encoderNamesSpec)

/-- ITS FALSE NEIGHBOUR: 'it returns false'. Refute it at one input. -/
def encoderNamesWrong : ChangeSpec := { name := "encoderNames", fn := fun _ => fun
  | [] => { results := [.lit (.bool false)], args := [] }
  | _ => none }
def EncoderNamesWrongFalsely : Prop := encoderNamesRow.holds Try.pinned (OpenSpec.ofChange encoderNamesWrong)

/-- 'bitloftlaw20.EncoderStays': WHATEVER THE INPUT: true; the input reads as it did. -/
def encoderStaysSpec : ChangeSpec := { name := "encoderStays", fn := fun _ => fun
  | [d1, d2] => { results := [.lit (.bool true)], args := [d1, d2] }
  | _ => none }
def encoderStaysRow : OpenClaim := { program := "ytgapkifgddjijaa", sum := "bd4a346fa7f11323cbfee8c427c8811358a1253050b00c5464801600bb67bc1f", func := "bitloft/bitloftlaw20.EncoderStays", spec := "encoderStays", unfollowed := true, recurses := true, apart := false }
def EncoderStaysSaid : Prop := encoderStaysRow.holds Try.pinned (OpenSpec.ofChange encoderStaysSpec)

/-- ITS FALSE NEIGHBOUR: 'it returns false'. Refute it at one input. -/
def encoderStaysWrong : ChangeSpec := { name := "encoderStays", fn := fun _ => fun
  | [d1, d2] => { results := [.lit (.bool false)], args := [d1, d2] }
  | _ => none }
def EncoderStaysWrongFalsely : Prop := encoderStaysRow.holds Try.pinned (OpenSpec.ofChange encoderStaysWrong)

/-- 'bitloftlaw21.DecoderNames': WHATEVER THE INPUT: true; the input reads as it did. -/
def decoderNamesSpec : ChangeSpec := { name := "decoderNames", fn := fun _ => fun
  | [] => { results := [.lit (.bool true)], args := [] }
  | _ => none }
def decoderNamesRow : OpenClaim := { program := "ytgapkifgddjijaa", sum := "bd4a346fa7f11323cbfee8c427c8811358a1253050b00c5464801600bb67bc1f", func := "bitloft/bitloftlaw21.DecoderNames", spec := "decoderNames", unfollowed := true, recurses := true, apart := false }
def DecoderNamesSaid : Prop := decoderNamesRow.holds Try.pinned (OpenSpec.ofChange decoderNamesSpec)

/-- ITS FALSE NEIGHBOUR: 'it returns false'. Refute it at one input. -/
def decoderNamesWrong : ChangeSpec := { name := "decoderNames", fn := fun _ => fun
  | [] => { results := [.lit (.bool false)], args := [] }
  | _ => none }
def DecoderNamesWrongFalsely : Prop := decoderNamesRow.holds Try.pinned (OpenSpec.ofChange decoderNamesWrong)

/-- 'bitloftlaw21.DecoderParts': WHATEVER THE INPUT: true; the input reads as it did. -/
def decoderPartsSpec : ChangeSpec := { name := "decoderParts", fn := fun _ => fun
  | [d1, d2, d3] => { results := [.lit (.bool true)], args := [d1, d2, d3] }
  | _ => none }
def decoderPartsRow : OpenClaim := { program := "ytgapkifgddjijaa", sum := "bd4a346fa7f11323cbfee8c427c8811358a1253050b00c5464801600bb67bc1f", func := "bitloft/bitloftlaw21.DecoderParts", spec := "decoderParts", unfollowed := true, recurses := true, apart := false }
def DecoderPartsSaid : Prop := decoderPartsRow.holds Try.pinned (OpenSpec.ofChange decoderPartsSpec)

/-- ITS FALSE NEIGHBOUR: 'it returns false'. Refute it at one input. -/
def decoderPartsWrong : ChangeSpec := { name := "decoderParts", fn := fun _ => fun
  | [d1, d2, d3] => { results := [.lit (.bool false)], args := [d1, d2, d3] }
  | _ => none }
def DecoderPartsWrongFalsely : Prop := decoderPartsRow.holds Try.pinned (OpenSpec.ofChange decoderPartsWrong)

/-- 'bitloftlaw21.DecoderBack': WHATEVER THE INPUT: true; the input reads as it did. -/
def decoderBackSpec : ChangeSpec := { name := "decoderBack", fn := fun _ => fun
  | [d1, d2, d3] => { results := [.lit (.bool true)], args := [d1, d2, d3] }
  | _ => none }
def decoderBackRow : OpenClaim := { program := "ytgapkifgddjijaa", sum := "bd4a346fa7f11323cbfee8c427c8811358a1253050b00c5464801600bb67bc1f", func := "bitloft/bitloftlaw21.DecoderBack", spec := "decoderBack", unfollowed := true, recurses := true, apart := false }
def DecoderBackSaid : Prop := decoderBackRow.holds Try.pinned (OpenSpec.ofChange decoderBackSpec)

/-- ITS FALSE NEIGHBOUR: 'it returns false'. Refute it at one input. -/
def decoderBackWrong : ChangeSpec := { name := "decoderBack", fn := fun _ => fun
  | [d1, d2, d3] => { results := [.lit (.bool false)], args := [d1, d2, d3] }
  | _ => none }
def DecoderBackWrongFalsely : Prop := decoderBackRow.holds Try.pinned (OpenSpec.ofChange decoderBackWrong)

/-- 'bitloftlaw21.DecoderRange': WHATEVER THE INPUT: true; the input reads as it did. -/
def decoderRangeSpec : ChangeSpec := { name := "decoderRange", fn := fun _ => fun
  | [d1, d2] => { results := [.lit (.bool true)], args := [d1, d2] }
  | _ => none }
def decoderRangeRow : OpenClaim := { program := "ytgapkifgddjijaa", sum := "bd4a346fa7f11323cbfee8c427c8811358a1253050b00c5464801600bb67bc1f", func := "bitloft/bitloftlaw21.DecoderRange", spec := "decoderRange", unfollowed := true, recurses := true, apart := false }
def DecoderRangeSaid : Prop := decoderRangeRow.holds Try.pinned (OpenSpec.ofChange decoderRangeSpec)

/-- ITS FALSE NEIGHBOUR: 'it returns false'. Refute it at one input. -/
def decoderRangeWrong : ChangeSpec := { name := "decoderRange", fn := fun _ => fun
  | [d1, d2] => { results := [.lit (.bool false)], args := [d1, d2] }
  | _ => none }
def DecoderRangeWrongFalsely : Prop := decoderRangeRow.holds Try.pinned (OpenSpec.ofChange decoderRangeWrong)

/-- 'bitloftlaw23.CostLists': WHATEVER THE INPUT: true; the input reads as it did. -/
def costListsSpec : ChangeSpec := { name := "costLists", fn := fun _ => fun
  | [d1, d2] => { results := [.lit (.bool true)], args := [d1, d2] }
  | _ => none }
def costListsRow : OpenClaim := { program := "ytgapkifgddjijaa", sum := "bd4a346fa7f11323cbfee8c427c8811358a1253050b00c5464801600bb67bc1f", func := "bitloft/bitloftlaw23.CostLists", spec := "costLists", apart := false }
def CostListsSaid : Prop := costListsRow.holds Try.pinned (OpenSpec.ofChange costListsSpec)

/-- ITS FALSE NEIGHBOUR: 'it returns false'. Refute it at one input. -/
def costListsWrong : ChangeSpec := { name := "costLists", fn := fun _ => fun
  | [d1, d2] => { results := [.lit (.bool false)], args := [d1, d2] }
  | _ => none }
def CostListsWrongFalsely : Prop := costListsRow.holds Try.pinned (OpenSpec.ofChange costListsWrong)

/-- 'bitloftlaw23.CostBytes': WHATEVER THE INPUT: true; the input reads as it did. -/
def costBytesSpec : ChangeSpec := { name := "costBytes", fn := fun _ => fun
  | [d1, d2] => { results := [.lit (.bool true)], args := [d1, d2] }
  | _ => none }
def costBytesRow : OpenClaim := { program := "ytgapkifgddjijaa", sum := "bd4a346fa7f11323cbfee8c427c8811358a1253050b00c5464801600bb67bc1f", func := "bitloft/bitloftlaw23.CostBytes", spec := "costBytes", apart := false }
def CostBytesSaid : Prop := costBytesRow.holds Try.pinned (OpenSpec.ofChange costBytesSpec)

/-- ITS FALSE NEIGHBOUR: 'it returns false'. Refute it at one input. -/
def costBytesWrong : ChangeSpec := { name := "costBytes", fn := fun _ => fun
  | [d1, d2] => { results := [.lit (.bool false)], args := [d1, d2] }
  | _ => none }
def CostBytesWrongFalsely : Prop := costBytesRow.holds Try.pinned (OpenSpec.ofChange costBytesWrong)

/-- 'bitloftlaw23.CostParts': WHATEVER THE INPUT: true; the input reads as it did. -/
def costPartsSpec : ChangeSpec := { name := "costParts", fn := fun _ => fun
  | [d1, d2, d3] => { results := [.lit (.bool true)], args := [d1, d2, d3] }
  | _ => none }
def costPartsRow : OpenClaim := { program := "ytgapkifgddjijaa", sum := "bd4a346fa7f11323cbfee8c427c8811358a1253050b00c5464801600bb67bc1f", func := "bitloft/bitloftlaw23.CostParts", spec := "costParts", apart := false }
def CostPartsSaid : Prop := costPartsRow.holds Try.pinned (OpenSpec.ofChange costPartsSpec)

/-- ITS FALSE NEIGHBOUR: 'it returns false'. Refute it at one input. -/
def costPartsWrong : ChangeSpec := { name := "costParts", fn := fun _ => fun
  | [d1, d2, d3] => { results := [.lit (.bool false)], args := [d1, d2, d3] }
  | _ => none }
def CostPartsWrongFalsely : Prop := costPartsRow.holds Try.pinned (OpenSpec.ofChange costPartsWrong)

/-- 'bitloftlaw23.CostNames': WHATEVER THE INPUT: true; the input reads as it did. -/
def costNamesSpec : ChangeSpec := { name := "costNames", fn := fun _ => fun
  | [] => { results := [.lit (.bool true)], args := [] }
  | _ => none }
def costNamesRow : OpenClaim := { program := "ytgapkifgddjijaa", sum := "bd4a346fa7f11323cbfee8c427c8811358a1253050b00c5464801600bb67bc1f", func := "bitloft/bitloftlaw23.CostNames", spec := "costNames", apart := false }
def CostNamesSaid : Prop := costNamesRow.holds Try.pinned (OpenSpec.ofChange costNamesSpec)

/-- ITS FALSE NEIGHBOUR: 'it returns false'. Refute it at one input. -/
def costNamesWrong : ChangeSpec := { name := "costNames", fn := fun _ => fun
  | [] => { results := [.lit (.bool false)], args := [] }
  | _ => none }
def CostNamesWrongFalsely : Prop := costNamesRow.holds Try.pinned (OpenSpec.ofChange costNamesWrong)

/- THE SECOND FORM. 'bulk': how many values and letters a reading holds, each counted each time it is reached (what is shared counts as often as it is met; a slice's spare places count too). A statement '..UptoSaid' is the law's where the arguments, and the package variables that the reading takes, are together of bulk at most 1048576: NARROWER than '..Said'. Prove '..Said' where nothing that the law and all that it calls make is longer than what came in: it says more and counts as full. Else prove '..UptoSaid'. A law counts once. -/
mutual
def uptoBulk {H : Type} : DataW H → Nat
  | .lit (.string bytes) => bytes.length + 1
  | .lit _ => 1
  | .nil => 1
  | .ptr d => uptoBulk d + 1
  | .slice elems spare => uptoBulkAll elems + uptoBulkAll spare + 1
  | .agg parts => uptoBulkAll parts + 1
  | .iface _ d => uptoBulk d + 1
  | .map entries => uptoBulkEntries entries + 1
  | .held _ => 1
def uptoBulkAll {H : Type} : List (DataW H) → Nat
  | [] => 0
  | d :: r => uptoBulk d + uptoBulkAll r
def uptoBulkEntries {H : Type} : List (Lit × DataW H) → Nat
  | [] => 0
  | x :: r => uptoBulkEntry x + uptoBulkEntries r
def uptoBulkEntry {H : Type} : Lit × DataW H → Nat
  | (.string bytes, d) => bytes.length + uptoBulk d + 1
  | (_, d) => uptoBulk d + 1
 end
def uptoSmall : (H : Type) → List (DataW H) → Bool := fun _ ds => decide (uptoBulkAll ds ≤ 1048576)
def OpenSpec.upto (s : _root_.Go.ChangeSpec) : _root_.Go.OpenSpec := { _root_.Go.OpenSpec.ofChange s with cond := some uptoSmall }

/-- 'bitloftlaw23.CostLogs', WHERE WHAT IT READS IS OF BULK AT MOST 1048576: true; the input reads as it did. -/
def costLogsUptoRow : OpenClaim := { program := "ytgapkifgddjijaa", sum := "bd4a346fa7f11323cbfee8c427c8811358a1253050b00c5464801600bb67bc1f", func := "bitloft/bitloftlaw23.CostLogs", spec := "costLogs", apart := false, narrowed := true }
def CostLogsUptoSaid : Prop := costLogsUptoRow.holds Try.pinned (OpenSpec.upto costLogsSpec)

/-- 'bitloftlaw20.EncoderRuns', WHERE WHAT IT READS IS OF BULK AT MOST 1048576: true; the input reads as it did. -/
def encoderRunsUptoRow : OpenClaim := { program := "ytgapkifgddjijaa", sum := "bd4a346fa7f11323cbfee8c427c8811358a1253050b00c5464801600bb67bc1f", func := "bitloft/bitloftlaw20.EncoderRuns", spec := "encoderRuns", unfollowed := true, recurses := true, apart := false, narrowed := true }
def EncoderRunsUptoSaid : Prop := encoderRunsUptoRow.holds Try.pinned (OpenSpec.upto encoderRunsSpec)

/-- 'bitloftlaw20.EncoderSplits', WHERE WHAT IT READS IS OF BULK AT MOST 1048576: true; the input reads as it did. -/
def encoderSplitsUptoRow : OpenClaim := { program := "ytgapkifgddjijaa", sum := "bd4a346fa7f11323cbfee8c427c8811358a1253050b00c5464801600bb67bc1f", func := "bitloft/bitloftlaw20.EncoderSplits", spec := "encoderSplits", unfollowed := true, recurses := true, apart := false, narrowed := true }
def EncoderSplitsUptoSaid : Prop := encoderSplitsUptoRow.holds Try.pinned (OpenSpec.upto encoderSplitsSpec)

/-- 'bitloftlaw20.EncoderPuts', WHERE WHAT IT READS IS OF BULK AT MOST 1048576: true; the input reads as it did. -/
def encoderPutsUptoRow : OpenClaim := { program := "ytgapkifgddjijaa", sum := "bd4a346fa7f11323cbfee8c427c8811358a1253050b00c5464801600bb67bc1f", func := "bitloft/bitloftlaw20.EncoderPuts", spec := "encoderPuts", apart := false, narrowed := true }
def EncoderPutsUptoSaid : Prop := encoderPutsUptoRow.holds Try.pinned (OpenSpec.upto encoderPutsSpec)

/-- 'bitloftlaw21.DecoderRuns', WHERE WHAT IT READS IS OF BULK AT MOST 1048576: true; the input reads as it did. -/
def decoderRunsUptoRow : OpenClaim := { program := "ytgapkifgddjijaa", sum := "bd4a346fa7f11323cbfee8c427c8811358a1253050b00c5464801600bb67bc1f", func := "bitloft/bitloftlaw21.DecoderRuns", spec := "decoderRuns", unfollowed := true, recurses := true, apart := false, narrowed := true }
def DecoderRunsUptoSaid : Prop := decoderRunsUptoRow.holds Try.pinned (OpenSpec.upto decoderRunsSpec)

/-- 'bitloftlaw23.CostOnes', WHERE WHAT IT READS IS OF BULK AT MOST 1048576: true; the input reads as it did. -/
def costOnesUptoRow : OpenClaim := { program := "ytgapkifgddjijaa", sum := "bd4a346fa7f11323cbfee8c427c8811358a1253050b00c5464801600bb67bc1f", func := "bitloft/bitloftlaw23.CostOnes", spec := "costOnes", apart := false, narrowed := true }
def CostOnesUptoSaid : Prop := costOnesUptoRow.holds Try.pinned (OpenSpec.upto costOnesSpec)

/-- 'bitloftlaw23.CostIdeal', WHERE WHAT IT READS IS OF BULK AT MOST 1048576: true; the input reads as it did. -/
def costIdealUptoRow : OpenClaim := { program := "ytgapkifgddjijaa", sum := "bd4a346fa7f11323cbfee8c427c8811358a1253050b00c5464801600bb67bc1f", func := "bitloft/bitloftlaw23.CostIdeal", spec := "costIdeal", apart := false, narrowed := true }
def CostIdealUptoSaid : Prop := costIdealUptoRow.holds Try.pinned (OpenSpec.upto costIdealSpec)

/-- 'bitloftlaw20.EncoderRange', WHERE WHAT IT READS IS OF BULK AT MOST 1048576: true; the input reads as it did. -/
def encoderRangeUptoRow : OpenClaim := { program := "ytgapkifgddjijaa", sum := "bd4a346fa7f11323cbfee8c427c8811358a1253050b00c5464801600bb67bc1f", func := "bitloft/bitloftlaw20.EncoderRange", spec := "encoderRange", unfollowed := true, recurses := true, apart := false, narrowed := true }
def EncoderRangeUptoSaid : Prop := encoderRangeUptoRow.holds Try.pinned (OpenSpec.upto encoderRangeSpec)

/-- 'bitloftlaw21.DecoderGets', WHERE WHAT IT READS IS OF BULK AT MOST 1048576: true; the input reads as it did. -/
def decoderGetsUptoRow : OpenClaim := { program := "ytgapkifgddjijaa", sum := "bd4a346fa7f11323cbfee8c427c8811358a1253050b00c5464801600bb67bc1f", func := "bitloft/bitloftlaw21.DecoderGets", spec := "decoderGets", apart := false, narrowed := true }
def DecoderGetsUptoSaid : Prop := decoderGetsUptoRow.holds Try.pinned (OpenSpec.upto decoderGetsSpec)

/-- 'bitloftlaw20.EncoderNames', WHERE WHAT IT READS IS OF BULK AT MOST 1048576: true; the input reads as it did. -/
def encoderNamesUptoRow : OpenClaim := { program := "ytgapkifgddjijaa", sum := "bd4a346fa7f11323cbfee8c427c8811358a1253050b00c5464801600bb67bc1f", func := "bitloft/bitloftlaw20.EncoderNames", spec := "encoderNames", unfollowed := true, recurses := true, apart := false, narrowed := true }
def EncoderNamesUptoSaid : Prop := encoderNamesUptoRow.holds Try.pinned (OpenSpec.upto encoderNamesSpec)

/-- 'bitloftlaw20.EncoderStays', WHERE WHAT IT READS IS OF BULK AT MOST 1048576: true; the input reads as it did. -/
def encoderStaysUptoRow : OpenClaim := { program := "ytgapkifgddjijaa", sum := "bd4a346fa7f11323cbfee8c427c8811358a1253050b00c5464801600bb67bc1f", func := "bitloft/bitloftlaw20.EncoderStays", spec := "encoderStays", unfollowed := true, recurses := true, apart := false, narrowed := true }
def EncoderStaysUptoSaid : Prop := encoderStaysUptoRow.holds Try.pinned (OpenSpec.upto encoderStaysSpec)

/-- 'bitloftlaw21.DecoderNames', WHERE WHAT IT READS IS OF BULK AT MOST 1048576: true; the input reads as it did. -/
def decoderNamesUptoRow : OpenClaim := { program := "ytgapkifgddjijaa", sum := "bd4a346fa7f11323cbfee8c427c8811358a1253050b00c5464801600bb67bc1f", func := "bitloft/bitloftlaw21.DecoderNames", spec := "decoderNames", unfollowed := true, recurses := true, apart := false, narrowed := true }
def DecoderNamesUptoSaid : Prop := decoderNamesUptoRow.holds Try.pinned (OpenSpec.upto decoderNamesSpec)

/-- 'bitloftlaw21.DecoderParts', WHERE WHAT IT READS IS OF BULK AT MOST 1048576: true; the input reads as it did. -/
def decoderPartsUptoRow : OpenClaim := { program := "ytgapkifgddjijaa", sum := "bd4a346fa7f11323cbfee8c427c8811358a1253050b00c5464801600bb67bc1f", func := "bitloft/bitloftlaw21.DecoderParts", spec := "decoderParts", unfollowed := true, recurses := true, apart := false, narrowed := true }
def DecoderPartsUptoSaid : Prop := decoderPartsUptoRow.holds Try.pinned (OpenSpec.upto decoderPartsSpec)

/-- 'bitloftlaw21.DecoderBack', WHERE WHAT IT READS IS OF BULK AT MOST 1048576: true; the input reads as it did. -/
def decoderBackUptoRow : OpenClaim := { program := "ytgapkifgddjijaa", sum := "bd4a346fa7f11323cbfee8c427c8811358a1253050b00c5464801600bb67bc1f", func := "bitloft/bitloftlaw21.DecoderBack", spec := "decoderBack", unfollowed := true, recurses := true, apart := false, narrowed := true }
def DecoderBackUptoSaid : Prop := decoderBackUptoRow.holds Try.pinned (OpenSpec.upto decoderBackSpec)

/-- 'bitloftlaw21.DecoderRange', WHERE WHAT IT READS IS OF BULK AT MOST 1048576: true; the input reads as it did. -/
def decoderRangeUptoRow : OpenClaim := { program := "ytgapkifgddjijaa", sum := "bd4a346fa7f11323cbfee8c427c8811358a1253050b00c5464801600bb67bc1f", func := "bitloft/bitloftlaw21.DecoderRange", spec := "decoderRange", unfollowed := true, recurses := true, apart := false, narrowed := true }
def DecoderRangeUptoSaid : Prop := decoderRangeUptoRow.holds Try.pinned (OpenSpec.upto decoderRangeSpec)

/-- 'bitloftlaw23.CostLists', WHERE WHAT IT READS IS OF BULK AT MOST 1048576: true; the input reads as it did. -/
def costListsUptoRow : OpenClaim := { program := "ytgapkifgddjijaa", sum := "bd4a346fa7f11323cbfee8c427c8811358a1253050b00c5464801600bb67bc1f", func := "bitloft/bitloftlaw23.CostLists", spec := "costLists", apart := false, narrowed := true }
def CostListsUptoSaid : Prop := costListsUptoRow.holds Try.pinned (OpenSpec.upto costListsSpec)

/-- 'bitloftlaw23.CostBytes', WHERE WHAT IT READS IS OF BULK AT MOST 1048576: true; the input reads as it did. -/
def costBytesUptoRow : OpenClaim := { program := "ytgapkifgddjijaa", sum := "bd4a346fa7f11323cbfee8c427c8811358a1253050b00c5464801600bb67bc1f", func := "bitloft/bitloftlaw23.CostBytes", spec := "costBytes", apart := false, narrowed := true }
def CostBytesUptoSaid : Prop := costBytesUptoRow.holds Try.pinned (OpenSpec.upto costBytesSpec)

/-- 'bitloftlaw23.CostParts', WHERE WHAT IT READS IS OF BULK AT MOST 1048576: true; the input reads as it did. -/
def costPartsUptoRow : OpenClaim := { program := "ytgapkifgddjijaa", sum := "bd4a346fa7f11323cbfee8c427c8811358a1253050b00c5464801600bb67bc1f", func := "bitloft/bitloftlaw23.CostParts", spec := "costParts", apart := false, narrowed := true }
def CostPartsUptoSaid : Prop := costPartsUptoRow.holds Try.pinned (OpenSpec.upto costPartsSpec)

/-- 'bitloftlaw23.CostNames', WHERE WHAT IT READS IS OF BULK AT MOST 1048576: true; the input reads as it did. -/
def costNamesUptoRow : OpenClaim := { program := "ytgapkifgddjijaa", sum := "bd4a346fa7f11323cbfee8c427c8811358a1253050b00c5464801600bb67bc1f", func := "bitloft/bitloftlaw23.CostNames", spec := "costNames", apart := false, narrowed := true }
def CostNamesUptoSaid : Prop := costNamesUptoRow.holds Try.pinned (OpenSpec.upto costNamesSpec)

end Rows
end Go.Proofs.Ytgapkifgddjijaa
