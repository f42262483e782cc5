/-
  NARROWER THAN 'FOR EVERY INPUT', by the rows' own cells (each row's printed sentence says how): HeaderWrites: laid · HeaderOne: laid · HeaderDiffer: laid · ShaBlocks: laid · TreeShows: laid · ShaSums: laid · TreeWays: laid · ShaPieces: laid · ShaPads: laid · ShaNames: laid · ShaDone: laid · HeaderSeals: laid · HeaderNames: laid · HeaderSealed: laid · TreeProofs: laid · TreeRoots: laid · TreeHalves: laid · TreeNames: laid.
  DERIVED. THE GIVEN ROWS OF THIS SEAT. 18 by the template 'for every input the law returns true; each argument reads behind the call as it read before'; 0 by the template 'total and deterministic' (their statements: YtbldecdipicddaaDoorTotals.lean).
  GIVEN WITH THE SEED: the statements are not yours to turn. If you find one false, say at which input.
  Laid BY PROGRAM, IN A SANDBOX (cutbox-rows.mjs): the forced cells as the released guide's own fill.sh prints them over the translation 3715a7e0f4eefee5… (all of the seat's roots in one cut). By AI agents, Wed Nov 11 2026. No macro, syntax, notation, axiom, sorry.
-/
import Derived.Test.YtbldecdipicddaaDoorChecked
import GoSem.Claim
import GoSem.ClaimJoined
import GoSem.ClaimMapViews
import Derived.JoinedTies
import Derived.KernelRfl
namespace Go.Proofs.YtbldecdipicddaaDoor
/- THE CELL 'sum', in the pinned program and in every row, IS THE sha256 OF THE DUMP (.gsa) THAT YtbldecdipicddaaDoorProg.lean LOADS. Nothing in Lean hashes anything: it is a label: what it is worth is what the hold of that sum in a sandbox is worth. -/
noncomputable def Tryd.pinned : Pinned := { name := "ytbldecdipicddaadoor", sum := "3715a7e0f4eefee5a4939f482bcb4692bc28e341a93be348470f27dc620eac66", checked := Tryd.checked }
namespace Rows
def none {H : Type} : Left H := { results := [], args := [] }

/- WHAT THE LISTED PACKAGE-LEVEL VARIABLES READ AS WHEN THE CALL BEGINS. Each datum BY PROGRAM (the guide's laid-datum.mjs) off the statement by which the dump's own 'gosem.cut.vars' lays the variable. In a bare row this is a premise. The card (YtbldecdipicddaaDoorCards.lean) ties it to the program's text. -/
def laid_bitloft_header_widths {H : Type} : DataW H := .agg [.lit (.int .i64 1), .lit (.int .i64 1), .lit (.int .i64 2), .lit (.int .i64 2), .lit (.int .i64 2)]
def laid_bitloft_sha_quarters {H : Type} : DataW H := .agg [.lit (.int .u32 1518500249), .lit (.int .u32 1859775393), .lit (.int .u32 2400959708), .lit (.int .u32 3395469782)]

/-- 'bitloftlaw26.HeaderWrites': WHATEVER THE INPUT: true; the input reads as it did. -/
def headerWritesSpec : ChangeSpec := { name := "headerWrites", fn := fun _ => fun
  | [d1, d2] => { results := [.lit (.bool true)], args := [d1, d2] }
  | _ => none }
def headerWritesRow : OpenClaim := { program := "ytbldecdipicddaadoor", sum := "3715a7e0f4eefee5a4939f482bcb4692bc28e341a93be348470f27dc620eac66", func := "bitloft/bitloftlaw26.HeaderWrites", spec := "headerWrites", named := ["bitloft/header.widths"], apart := false, laid := [("bitloft/header.widths", laid_bitloft_header_widths)] }
def HeaderWritesSaid : Prop := headerWritesRow.holds Tryd.pinned (OpenSpec.ofChange headerWritesSpec)

/-- ITS FALSE NEIGHBOUR: 'it returns false'. Refute it at one input. -/
def headerWritesWrong : ChangeSpec := { name := "headerWrites", fn := fun _ => fun
  | [d1, d2] => { results := [.lit (.bool false)], args := [d1, d2] }
  | _ => none }
def HeaderWritesWrongFalsely : Prop := headerWritesRow.holds Tryd.pinned (OpenSpec.ofChange headerWritesWrong)

/-- 'bitloftlaw26.HeaderOne': WHATEVER THE INPUT: true; the input reads as it did. -/
def headerOneSpec : ChangeSpec := { name := "headerOne", fn := fun _ => fun
  | [d1, d2] => { results := [.lit (.bool true)], args := [d1, d2] }
  | _ => none }
def headerOneRow : OpenClaim := { program := "ytbldecdipicddaadoor", sum := "3715a7e0f4eefee5a4939f482bcb4692bc28e341a93be348470f27dc620eac66", func := "bitloft/bitloftlaw26.HeaderOne", spec := "headerOne", named := ["bitloft/header.widths"], apart := false, laid := [("bitloft/header.widths", laid_bitloft_header_widths)] }
def HeaderOneSaid : Prop := headerOneRow.holds Tryd.pinned (OpenSpec.ofChange headerOneSpec)

/-- ITS FALSE NEIGHBOUR: 'it returns false'. Refute it at one input. -/
def headerOneWrong : ChangeSpec := { name := "headerOne", fn := fun _ => fun
  | [d1, d2] => { results := [.lit (.bool false)], args := [d1, d2] }
  | _ => none }
def HeaderOneWrongFalsely : Prop := headerOneRow.holds Tryd.pinned (OpenSpec.ofChange headerOneWrong)

/-- 'bitloftlaw26.HeaderDiffer': WHATEVER THE INPUT: true; the input reads as it did. -/
def headerDifferSpec : ChangeSpec := { name := "headerDiffer", fn := fun _ => fun
  | [d1, d2] => { results := [.lit (.bool true)], args := [d1, d2] }
  | _ => none }
def headerDifferRow : OpenClaim := { program := "ytbldecdipicddaadoor", sum := "3715a7e0f4eefee5a4939f482bcb4692bc28e341a93be348470f27dc620eac66", func := "bitloft/bitloftlaw26.HeaderDiffer", spec := "headerDiffer", named := ["bitloft/header.widths"], apart := false, laid := [("bitloft/header.widths", laid_bitloft_header_widths)] }
def HeaderDifferSaid : Prop := headerDifferRow.holds Tryd.pinned (OpenSpec.ofChange headerDifferSpec)

/-- ITS FALSE NEIGHBOUR: 'it returns false'. Refute it at one input. -/
def headerDifferWrong : ChangeSpec := { name := "headerDiffer", fn := fun _ => fun
  | [d1, d2] => { results := [.lit (.bool false)], args := [d1, d2] }
  | _ => none }
def HeaderDifferWrongFalsely : Prop := headerDifferRow.holds Tryd.pinned (OpenSpec.ofChange headerDifferWrong)

/-- 'bitloftlaw01.ShaBlocks': WHATEVER THE INPUT: true; the input reads as it did. -/
def shaBlocksSpec : ChangeSpec := { name := "shaBlocks", fn := fun _ => fun
  | [d1, d2, d3] => { results := [.lit (.bool true)], args := [d1, d2, d3] }
  | _ => none }
def shaBlocksRow : OpenClaim := { program := "ytbldecdipicddaadoor", sum := "3715a7e0f4eefee5a4939f482bcb4692bc28e341a93be348470f27dc620eac66", func := "bitloft/bitloftlaw01.ShaBlocks", spec := "shaBlocks", named := ["bitloft/sha.quarters"], apart := false, laid := [("bitloft/sha.quarters", laid_bitloft_sha_quarters)] }
def ShaBlocksSaid : Prop := shaBlocksRow.holds Tryd.pinned (OpenSpec.ofChange shaBlocksSpec)

/-- ITS FALSE NEIGHBOUR: 'it returns false'. Refute it at one input. -/
def shaBlocksWrong : ChangeSpec := { name := "shaBlocks", fn := fun _ => fun
  | [d1, d2, d3] => { results := [.lit (.bool false)], args := [d1, d2, d3] }
  | _ => none }
def ShaBlocksWrongFalsely : Prop := shaBlocksRow.holds Tryd.pinned (OpenSpec.ofChange shaBlocksWrong)

/-- 'bitloftlaw41.TreeShows': WHATEVER THE INPUT: true; the input reads as it did. -/
def treeShowsSpec : ChangeSpec := { name := "treeShows", fn := fun _ => fun
  | [d1, d2, d3] => { results := [.lit (.bool true)], args := [d1, d2, d3] }
  | _ => none }
def treeShowsRow : OpenClaim := { program := "ytbldecdipicddaadoor", sum := "3715a7e0f4eefee5a4939f482bcb4692bc28e341a93be348470f27dc620eac66", func := "bitloft/bitloftlaw41.TreeShows", spec := "treeShows", unfollowed := true, recurses := true, named := ["bitloft/sha.quarters"], apart := false, laid := [("bitloft/sha.quarters", laid_bitloft_sha_quarters)] }
def TreeShowsSaid : Prop := treeShowsRow.holds Tryd.pinned (OpenSpec.ofChange treeShowsSpec)

/-- ITS FALSE NEIGHBOUR: 'it returns false'. Refute it at one input. -/
def treeShowsWrong : ChangeSpec := { name := "treeShows", fn := fun _ => fun
  | [d1, d2, d3] => { results := [.lit (.bool false)], args := [d1, d2, d3] }
  | _ => none }
def TreeShowsWrongFalsely : Prop := treeShowsRow.holds Tryd.pinned (OpenSpec.ofChange treeShowsWrong)

/-- 'bitloftlaw01.ShaSums': WHATEVER THE INPUT: true; the input reads as it did. -/
def shaSumsSpec : ChangeSpec := { name := "shaSums", fn := fun _ => fun
  | [d] => { results := [.lit (.bool true)], args := [d] }
  | _ => none }
def shaSumsRow : OpenClaim := { program := "ytbldecdipicddaadoor", sum := "3715a7e0f4eefee5a4939f482bcb4692bc28e341a93be348470f27dc620eac66", func := "bitloft/bitloftlaw01.ShaSums", spec := "shaSums", named := ["bitloft/sha.quarters"], apart := false, laid := [("bitloft/sha.quarters", laid_bitloft_sha_quarters)] }
def ShaSumsSaid : Prop := shaSumsRow.holds Tryd.pinned (OpenSpec.ofChange shaSumsSpec)

/-- ITS FALSE NEIGHBOUR: 'it returns false'. Refute it at one input. -/
def shaSumsWrong : ChangeSpec := { name := "shaSums", fn := fun _ => fun
  | [d] => { results := [.lit (.bool false)], args := [d] }
  | _ => none }
def ShaSumsWrongFalsely : Prop := shaSumsRow.holds Tryd.pinned (OpenSpec.ofChange shaSumsWrong)

/-- 'bitloftlaw41.TreeWays': WHATEVER THE INPUT: true; the input reads as it did. -/
def treeWaysSpec : ChangeSpec := { name := "treeWays", fn := fun _ => fun
  | [d1, d2, d3, d4, d5] => { results := [.lit (.bool true)], args := [d1, d2, d3, d4, d5] }
  | _ => none }
def treeWaysRow : OpenClaim := { program := "ytbldecdipicddaadoor", sum := "3715a7e0f4eefee5a4939f482bcb4692bc28e341a93be348470f27dc620eac66", func := "bitloft/bitloftlaw41.TreeWays", spec := "treeWays", unfollowed := true, recurses := true, named := ["bitloft/sha.quarters"], apart := false, laid := [("bitloft/sha.quarters", laid_bitloft_sha_quarters)] }
def TreeWaysSaid : Prop := treeWaysRow.holds Tryd.pinned (OpenSpec.ofChange treeWaysSpec)

/-- ITS FALSE NEIGHBOUR: 'it returns false'. Refute it at one input. -/
def treeWaysWrong : ChangeSpec := { name := "treeWays", fn := fun _ => fun
  | [d1, d2, d3, d4, d5] => { results := [.lit (.bool false)], args := [d1, d2, d3, d4, d5] }
  | _ => none }
def TreeWaysWrongFalsely : Prop := treeWaysRow.holds Tryd.pinned (OpenSpec.ofChange treeWaysWrong)

/-- 'bitloftlaw01.ShaPieces': WHATEVER THE INPUT: true; the input reads as it did. -/
def shaPiecesSpec : ChangeSpec := { name := "shaPieces", fn := fun _ => fun
  | [d1, d2] => { results := [.lit (.bool true)], args := [d1, d2] }
  | _ => none }
def shaPiecesRow : OpenClaim := { program := "ytbldecdipicddaadoor", sum := "3715a7e0f4eefee5a4939f482bcb4692bc28e341a93be348470f27dc620eac66", func := "bitloft/bitloftlaw01.ShaPieces", spec := "shaPieces", named := ["bitloft/sha.quarters"], apart := false, laid := [("bitloft/sha.quarters", laid_bitloft_sha_quarters)] }
def ShaPiecesSaid : Prop := shaPiecesRow.holds Tryd.pinned (OpenSpec.ofChange shaPiecesSpec)

/-- ITS FALSE NEIGHBOUR: 'it returns false'. Refute it at one input. -/
def shaPiecesWrong : ChangeSpec := { name := "shaPieces", fn := fun _ => fun
  | [d1, d2] => { results := [.lit (.bool false)], args := [d1, d2] }
  | _ => none }
def ShaPiecesWrongFalsely : Prop := shaPiecesRow.holds Tryd.pinned (OpenSpec.ofChange shaPiecesWrong)

/-- 'bitloftlaw01.ShaPads': WHATEVER THE INPUT: true; the input reads as it did. -/
def shaPadsSpec : ChangeSpec := { name := "shaPads", fn := fun _ => fun
  | [d] => { results := [.lit (.bool true)], args := [d] }
  | _ => none }
def shaPadsRow : OpenClaim := { program := "ytbldecdipicddaadoor", sum := "3715a7e0f4eefee5a4939f482bcb4692bc28e341a93be348470f27dc620eac66", func := "bitloft/bitloftlaw01.ShaPads", spec := "shaPads", named := ["bitloft/sha.quarters"], apart := false, laid := [("bitloft/sha.quarters", laid_bitloft_sha_quarters)] }
def ShaPadsSaid : Prop := shaPadsRow.holds Tryd.pinned (OpenSpec.ofChange shaPadsSpec)

/-- ITS FALSE NEIGHBOUR: 'it returns false'. Refute it at one input. -/
def shaPadsWrong : ChangeSpec := { name := "shaPads", fn := fun _ => fun
  | [d] => { results := [.lit (.bool false)], args := [d] }
  | _ => none }
def ShaPadsWrongFalsely : Prop := shaPadsRow.holds Tryd.pinned (OpenSpec.ofChange shaPadsWrong)

/-- 'bitloftlaw01.ShaNames': WHATEVER THE INPUT: true; the input reads as it did. -/
def shaNamesSpec : ChangeSpec := { name := "shaNames", fn := fun _ => fun
  | [] => { results := [.lit (.bool true)], args := [] }
  | _ => none }
def shaNamesRow : OpenClaim := { program := "ytbldecdipicddaadoor", sum := "3715a7e0f4eefee5a4939f482bcb4692bc28e341a93be348470f27dc620eac66", func := "bitloft/bitloftlaw01.ShaNames", spec := "shaNames", named := ["bitloft/sha.quarters"], apart := false, laid := [("bitloft/sha.quarters", laid_bitloft_sha_quarters)] }
def ShaNamesSaid : Prop := shaNamesRow.holds Tryd.pinned (OpenSpec.ofChange shaNamesSpec)

/-- ITS FALSE NEIGHBOUR: 'it returns false'. Refute it at one input. -/
def shaNamesWrong : ChangeSpec := { name := "shaNames", fn := fun _ => fun
  | [] => { results := [.lit (.bool false)], args := [] }
  | _ => none }
def ShaNamesWrongFalsely : Prop := shaNamesRow.holds Tryd.pinned (OpenSpec.ofChange shaNamesWrong)

/-- 'bitloftlaw01.ShaDone': WHATEVER THE INPUT: true; the input reads as it did. -/
def shaDoneSpec : ChangeSpec := { name := "shaDone", fn := fun _ => fun
  | [d] => { results := [.lit (.bool true)], args := [d] }
  | _ => none }
def shaDoneRow : OpenClaim := { program := "ytbldecdipicddaadoor", sum := "3715a7e0f4eefee5a4939f482bcb4692bc28e341a93be348470f27dc620eac66", func := "bitloft/bitloftlaw01.ShaDone", spec := "shaDone", named := ["bitloft/sha.quarters"], apart := false, laid := [("bitloft/sha.quarters", laid_bitloft_sha_quarters)] }
def ShaDoneSaid : Prop := shaDoneRow.holds Tryd.pinned (OpenSpec.ofChange shaDoneSpec)

/-- ITS FALSE NEIGHBOUR: 'it returns false'. Refute it at one input. -/
def shaDoneWrong : ChangeSpec := { name := "shaDone", fn := fun _ => fun
  | [d] => { results := [.lit (.bool false)], args := [d] }
  | _ => none }
def ShaDoneWrongFalsely : Prop := shaDoneRow.holds Tryd.pinned (OpenSpec.ofChange shaDoneWrong)

/-- 'bitloftlaw26.HeaderSeals': WHATEVER THE INPUT: true; the input reads as it did. -/
def headerSealsSpec : ChangeSpec := { name := "headerSeals", fn := fun _ => fun
  | [d1, d2] => { results := [.lit (.bool true)], args := [d1, d2] }
  | _ => none }
def headerSealsRow : OpenClaim := { program := "ytbldecdipicddaadoor", sum := "3715a7e0f4eefee5a4939f482bcb4692bc28e341a93be348470f27dc620eac66", func := "bitloft/bitloftlaw26.HeaderSeals", spec := "headerSeals", named := ["bitloft/header.widths", "bitloft/sha.quarters"], apart := false, laid := [("bitloft/sha.quarters", laid_bitloft_sha_quarters), ("bitloft/header.widths", laid_bitloft_header_widths)] }
def HeaderSealsSaid : Prop := headerSealsRow.holds Tryd.pinned (OpenSpec.ofChange headerSealsSpec)

/-- ITS FALSE NEIGHBOUR: 'it returns false'. Refute it at one input. -/
def headerSealsWrong : ChangeSpec := { name := "headerSeals", fn := fun _ => fun
  | [d1, d2] => { results := [.lit (.bool false)], args := [d1, d2] }
  | _ => none }
def HeaderSealsWrongFalsely : Prop := headerSealsRow.holds Tryd.pinned (OpenSpec.ofChange headerSealsWrong)

/-- 'bitloftlaw26.HeaderNames': WHATEVER THE INPUT: true; the input reads as it did. -/
def headerNamesSpec : ChangeSpec := { name := "headerNames", fn := fun _ => fun
  | [] => { results := [.lit (.bool true)], args := [] }
  | _ => none }
def headerNamesRow : OpenClaim := { program := "ytbldecdipicddaadoor", sum := "3715a7e0f4eefee5a4939f482bcb4692bc28e341a93be348470f27dc620eac66", func := "bitloft/bitloftlaw26.HeaderNames", spec := "headerNames", named := ["bitloft/header.widths", "bitloft/sha.quarters"], apart := false, laid := [("bitloft/sha.quarters", laid_bitloft_sha_quarters), ("bitloft/header.widths", laid_bitloft_header_widths)] }
def HeaderNamesSaid : Prop := headerNamesRow.holds Tryd.pinned (OpenSpec.ofChange headerNamesSpec)

/-- ITS FALSE NEIGHBOUR: 'it returns false'. Refute it at one input. -/
def headerNamesWrong : ChangeSpec := { name := "headerNames", fn := fun _ => fun
  | [] => { results := [.lit (.bool false)], args := [] }
  | _ => none }
def HeaderNamesWrongFalsely : Prop := headerNamesRow.holds Tryd.pinned (OpenSpec.ofChange headerNamesWrong)

/-- 'bitloftlaw26.HeaderSealed': WHATEVER THE INPUT: true; the input reads as it did. -/
def headerSealedSpec : ChangeSpec := { name := "headerSealed", fn := fun _ => fun
  | [d1, d2, d3] => { results := [.lit (.bool true)], args := [d1, d2, d3] }
  | _ => none }
def headerSealedRow : OpenClaim := { program := "ytbldecdipicddaadoor", sum := "3715a7e0f4eefee5a4939f482bcb4692bc28e341a93be348470f27dc620eac66", func := "bitloft/bitloftlaw26.HeaderSealed", spec := "headerSealed", named := ["bitloft/header.widths", "bitloft/sha.quarters"], apart := false, laid := [("bitloft/sha.quarters", laid_bitloft_sha_quarters), ("bitloft/header.widths", laid_bitloft_header_widths)] }
def HeaderSealedSaid : Prop := headerSealedRow.holds Tryd.pinned (OpenSpec.ofChange headerSealedSpec)

/-- ITS FALSE NEIGHBOUR: 'it returns false'. Refute it at one input. -/
def headerSealedWrong : ChangeSpec := { name := "headerSealed", fn := fun _ => fun
  | [d1, d2, d3] => { results := [.lit (.bool false)], args := [d1, d2, d3] }
  | _ => none }
def HeaderSealedWrongFalsely : Prop := headerSealedRow.holds Tryd.pinned (OpenSpec.ofChange headerSealedWrong)

/-- 'bitloftlaw41.TreeProofs': WHATEVER THE INPUT: true; the input reads as it did. -/
def treeProofsSpec : ChangeSpec := { name := "treeProofs", fn := fun _ => fun
  | [d1, d2, d3, d4, d5, d6] => { results := [.lit (.bool true)], args := [d1, d2, d3, d4, d5, d6] }
  | _ => none }
def treeProofsRow : OpenClaim := { program := "ytbldecdipicddaadoor", sum := "3715a7e0f4eefee5a4939f482bcb4692bc28e341a93be348470f27dc620eac66", func := "bitloft/bitloftlaw41.TreeProofs", spec := "treeProofs", recurses := true, named := ["bitloft/sha.quarters"], apart := false, laid := [("bitloft/sha.quarters", laid_bitloft_sha_quarters)] }
def TreeProofsSaid : Prop := treeProofsRow.holds Tryd.pinned (OpenSpec.ofChange treeProofsSpec)

/-- ITS FALSE NEIGHBOUR: 'it returns false'. Refute it at one input. -/
def treeProofsWrong : ChangeSpec := { name := "treeProofs", fn := fun _ => fun
  | [d1, d2, d3, d4, d5, d6] => { results := [.lit (.bool false)], args := [d1, d2, d3, d4, d5, d6] }
  | _ => none }
def TreeProofsWrongFalsely : Prop := treeProofsRow.holds Tryd.pinned (OpenSpec.ofChange treeProofsWrong)

/-- 'bitloftlaw41.TreeRoots': WHATEVER THE INPUT: true; the input reads as it did. -/
def treeRootsSpec : ChangeSpec := { name := "treeRoots", fn := fun _ => fun
  | [d1, d2, d3, d4] => { results := [.lit (.bool true)], args := [d1, d2, d3, d4] }
  | _ => none }
def treeRootsRow : OpenClaim := { program := "ytbldecdipicddaadoor", sum := "3715a7e0f4eefee5a4939f482bcb4692bc28e341a93be348470f27dc620eac66", func := "bitloft/bitloftlaw41.TreeRoots", spec := "treeRoots", unfollowed := true, recurses := true, named := ["bitloft/sha.quarters"], apart := false, laid := [("bitloft/sha.quarters", laid_bitloft_sha_quarters)] }
def TreeRootsSaid : Prop := treeRootsRow.holds Tryd.pinned (OpenSpec.ofChange treeRootsSpec)

/-- ITS FALSE NEIGHBOUR: 'it returns false'. Refute it at one input. -/
def treeRootsWrong : ChangeSpec := { name := "treeRoots", fn := fun _ => fun
  | [d1, d2, d3, d4] => { results := [.lit (.bool false)], args := [d1, d2, d3, d4] }
  | _ => none }
def TreeRootsWrongFalsely : Prop := treeRootsRow.holds Tryd.pinned (OpenSpec.ofChange treeRootsWrong)

/-- 'bitloftlaw41.TreeHalves': WHATEVER THE INPUT: true; the input reads as it did. -/
def treeHalvesSpec : ChangeSpec := { name := "treeHalves", fn := fun _ => fun
  | [d1, d2] => { results := [.lit (.bool true)], args := [d1, d2] }
  | _ => none }
def treeHalvesRow : OpenClaim := { program := "ytbldecdipicddaadoor", sum := "3715a7e0f4eefee5a4939f482bcb4692bc28e341a93be348470f27dc620eac66", func := "bitloft/bitloftlaw41.TreeHalves", spec := "treeHalves", unfollowed := true, recurses := true, named := ["bitloft/sha.quarters"], apart := false, laid := [("bitloft/sha.quarters", laid_bitloft_sha_quarters)] }
def TreeHalvesSaid : Prop := treeHalvesRow.holds Tryd.pinned (OpenSpec.ofChange treeHalvesSpec)

/-- ITS FALSE NEIGHBOUR: 'it returns false'. Refute it at one input. -/
def treeHalvesWrong : ChangeSpec := { name := "treeHalves", fn := fun _ => fun
  | [d1, d2] => { results := [.lit (.bool false)], args := [d1, d2] }
  | _ => none }
def TreeHalvesWrongFalsely : Prop := treeHalvesRow.holds Tryd.pinned (OpenSpec.ofChange treeHalvesWrong)

/-- 'bitloftlaw41.TreeNames': WHATEVER THE INPUT: true; the input reads as it did. -/
def treeNamesSpec : ChangeSpec := { name := "treeNames", fn := fun _ => fun
  | [] => { results := [.lit (.bool true)], args := [] }
  | _ => none }
def treeNamesRow : OpenClaim := { program := "ytbldecdipicddaadoor", sum := "3715a7e0f4eefee5a4939f482bcb4692bc28e341a93be348470f27dc620eac66", func := "bitloft/bitloftlaw41.TreeNames", spec := "treeNames", unfollowed := true, recurses := true, named := ["bitloft/sha.quarters"], apart := false, laid := [("bitloft/sha.quarters", laid_bitloft_sha_quarters)] }
def TreeNamesSaid : Prop := treeNamesRow.holds Tryd.pinned (OpenSpec.ofChange treeNamesSpec)

/-- ITS FALSE NEIGHBOUR: 'it returns false'. Refute it at one input. -/
def treeNamesWrong : ChangeSpec := { name := "treeNames", fn := fun _ => fun
  | [] => { results := [.lit (.bool false)], args := [] }
  | _ => none }
def TreeNamesWrongFalsely : Prop := treeNamesRow.holds Tryd.pinned (OpenSpec.ofChange treeNamesWrong)

/- THE SECOND FORM. 'bulk': how many values and letters a reading holds, each counted each time it is reached (what is shared counts as often as it is met; a slice's spare places count too). A statement '..UptoSaid' is the law's where the arguments, and the package variables that the reading takes, are together of bulk at most 1048576: NARROWER than '..Said'. Prove '..Said' where nothing that the law and all that it calls make is longer than what came in: it says more and counts as full. Else prove '..UptoSaid'. A law counts once. -/
mutual
def uptoBulk {H : Type} : DataW H → Nat
  | .lit (.string bytes) => bytes.length + 1
  | .lit _ => 1
  | .nil => 1
  | .ptr d => uptoBulk d + 1
  | .slice elems spare => uptoBulkAll elems + uptoBulkAll spare + 1
  | .agg parts => uptoBulkAll parts + 1
  | .iface _ d => uptoBulk d + 1
  | .map entries => uptoBulkEntries entries + 1
  | .held _ => 1
def uptoBulkAll {H : Type} : List (DataW H) → Nat
  | [] => 0
  | d :: r => uptoBulk d + uptoBulkAll r
def uptoBulkEntries {H : Type} : List (Lit × DataW H) → Nat
  | [] => 0
  | x :: r => uptoBulkEntry x + uptoBulkEntries r
def uptoBulkEntry {H : Type} : Lit × DataW H → Nat
  | (.string bytes, d) => bytes.length + uptoBulk d + 1
  | (_, d) => uptoBulk d + 1
 end
def uptoSmall : (H : Type) → List (DataW H) → Bool := fun _ ds => decide (uptoBulkAll ds ≤ 1048576)
def OpenSpec.upto (s : _root_.Go.ChangeSpec) : _root_.Go.OpenSpec := { _root_.Go.OpenSpec.ofChange s with cond := some uptoSmall }

/-- 'bitloftlaw26.HeaderWrites', WHERE WHAT IT READS IS OF BULK AT MOST 1048576: true; the input reads as it did. -/
def headerWritesUptoRow : OpenClaim := { program := "ytbldecdipicddaadoor", sum := "3715a7e0f4eefee5a4939f482bcb4692bc28e341a93be348470f27dc620eac66", func := "bitloft/bitloftlaw26.HeaderWrites", spec := "headerWrites", named := ["bitloft/header.widths"], apart := false, laid := [("bitloft/header.widths", laid_bitloft_header_widths)], narrowed := true }
def HeaderWritesUptoSaid : Prop := headerWritesUptoRow.holds Tryd.pinned (OpenSpec.upto headerWritesSpec)

/-- 'bitloftlaw26.HeaderOne', WHERE WHAT IT READS IS OF BULK AT MOST 1048576: true; the input reads as it did. -/
def headerOneUptoRow : OpenClaim := { program := "ytbldecdipicddaadoor", sum := "3715a7e0f4eefee5a4939f482bcb4692bc28e341a93be348470f27dc620eac66", func := "bitloft/bitloftlaw26.HeaderOne", spec := "headerOne", named := ["bitloft/header.widths"], apart := false, laid := [("bitloft/header.widths", laid_bitloft_header_widths)], narrowed := true }
def HeaderOneUptoSaid : Prop := headerOneUptoRow.holds Tryd.pinned (OpenSpec.upto headerOneSpec)

/-- 'bitloftlaw26.HeaderDiffer', WHERE WHAT IT READS IS OF BULK AT MOST 1048576: true; the input reads as it did. -/
def headerDifferUptoRow : OpenClaim := { program := "ytbldecdipicddaadoor", sum := "3715a7e0f4eefee5a4939f482bcb4692bc28e341a93be348470f27dc620eac66", func := "bitloft/bitloftlaw26.HeaderDiffer", spec := "headerDiffer", named := ["bitloft/header.widths"], apart := false, laid := [("bitloft/header.widths", laid_bitloft_header_widths)], narrowed := true }
def HeaderDifferUptoSaid : Prop := headerDifferUptoRow.holds Tryd.pinned (OpenSpec.upto headerDifferSpec)

/-- 'bitloftlaw01.ShaBlocks', WHERE WHAT IT READS IS OF BULK AT MOST 1048576: true; the input reads as it did. -/
def shaBlocksUptoRow : OpenClaim := { program := "ytbldecdipicddaadoor", sum := "3715a7e0f4eefee5a4939f482bcb4692bc28e341a93be348470f27dc620eac66", func := "bitloft/bitloftlaw01.ShaBlocks", spec := "shaBlocks", named := ["bitloft/sha.quarters"], apart := false, laid := [("bitloft/sha.quarters", laid_bitloft_sha_quarters)], narrowed := true }
def ShaBlocksUptoSaid : Prop := shaBlocksUptoRow.holds Tryd.pinned (OpenSpec.upto shaBlocksSpec)

/-- 'bitloftlaw41.TreeShows', WHERE WHAT IT READS IS OF BULK AT MOST 1048576: true; the input reads as it did. -/
def treeShowsUptoRow : OpenClaim := { program := "ytbldecdipicddaadoor", sum := "3715a7e0f4eefee5a4939f482bcb4692bc28e341a93be348470f27dc620eac66", func := "bitloft/bitloftlaw41.TreeShows", spec := "treeShows", unfollowed := true, recurses := true, named := ["bitloft/sha.quarters"], apart := false, laid := [("bitloft/sha.quarters", laid_bitloft_sha_quarters)], narrowed := true }
def TreeShowsUptoSaid : Prop := treeShowsUptoRow.holds Tryd.pinned (OpenSpec.upto treeShowsSpec)

/-- 'bitloftlaw01.ShaSums', WHERE WHAT IT READS IS OF BULK AT MOST 1048576: true; the input reads as it did. -/
def shaSumsUptoRow : OpenClaim := { program := "ytbldecdipicddaadoor", sum := "3715a7e0f4eefee5a4939f482bcb4692bc28e341a93be348470f27dc620eac66", func := "bitloft/bitloftlaw01.ShaSums", spec := "shaSums", named := ["bitloft/sha.quarters"], apart := false, laid := [("bitloft/sha.quarters", laid_bitloft_sha_quarters)], narrowed := true }
def ShaSumsUptoSaid : Prop := shaSumsUptoRow.holds Tryd.pinned (OpenSpec.upto shaSumsSpec)

/-- 'bitloftlaw41.TreeWays', WHERE WHAT IT READS IS OF BULK AT MOST 1048576: true; the input reads as it did. -/
def treeWaysUptoRow : OpenClaim := { program := "ytbldecdipicddaadoor", sum := "3715a7e0f4eefee5a4939f482bcb4692bc28e341a93be348470f27dc620eac66", func := "bitloft/bitloftlaw41.TreeWays", spec := "treeWays", unfollowed := true, recurses := true, named := ["bitloft/sha.quarters"], apart := false, laid := [("bitloft/sha.quarters", laid_bitloft_sha_quarters)], narrowed := true }
def TreeWaysUptoSaid : Prop := treeWaysUptoRow.holds Tryd.pinned (OpenSpec.upto treeWaysSpec)

/-- 'bitloftlaw01.ShaPieces', WHERE WHAT IT READS IS OF BULK AT MOST 1048576: true; the input reads as it did. -/
def shaPiecesUptoRow : OpenClaim := { program := "ytbldecdipicddaadoor", sum := "3715a7e0f4eefee5a4939f482bcb4692bc28e341a93be348470f27dc620eac66", func := "bitloft/bitloftlaw01.ShaPieces", spec := "shaPieces", named := ["bitloft/sha.quarters"], apart := false, laid := [("bitloft/sha.quarters", laid_bitloft_sha_quarters)], narrowed := true }
def ShaPiecesUptoSaid : Prop := shaPiecesUptoRow.holds Tryd.pinned (OpenSpec.upto shaPiecesSpec)

/-- 'bitloftlaw01.ShaPads', WHERE WHAT IT READS IS OF BULK AT MOST 1048576: true; the input reads as it did. -/
def shaPadsUptoRow : OpenClaim := { program := "ytbldecdipicddaadoor", sum := "3715a7e0f4eefee5a4939f482bcb4692bc28e341a93be348470f27dc620eac66", func := "bitloft/bitloftlaw01.ShaPads", spec := "shaPads", named := ["bitloft/sha.quarters"], apart := false, laid := [("bitloft/sha.quarters", laid_bitloft_sha_quarters)], narrowed := true }
def ShaPadsUptoSaid : Prop := shaPadsUptoRow.holds Tryd.pinned (OpenSpec.upto shaPadsSpec)

/-- 'bitloftlaw01.ShaNames', WHERE WHAT IT READS IS OF BULK AT MOST 1048576: true; the input reads as it did. -/
def shaNamesUptoRow : OpenClaim := { program := "ytbldecdipicddaadoor", sum := "3715a7e0f4eefee5a4939f482bcb4692bc28e341a93be348470f27dc620eac66", func := "bitloft/bitloftlaw01.ShaNames", spec := "shaNames", named := ["bitloft/sha.quarters"], apart := false, laid := [("bitloft/sha.quarters", laid_bitloft_sha_quarters)], narrowed := true }
def ShaNamesUptoSaid : Prop := shaNamesUptoRow.holds Tryd.pinned (OpenSpec.upto shaNamesSpec)

/-- 'bitloftlaw01.ShaDone', WHERE WHAT IT READS IS OF BULK AT MOST 1048576: true; the input reads as it did. -/
def shaDoneUptoRow : OpenClaim := { program := "ytbldecdipicddaadoor", sum := "3715a7e0f4eefee5a4939f482bcb4692bc28e341a93be348470f27dc620eac66", func := "bitloft/bitloftlaw01.ShaDone", spec := "shaDone", named := ["bitloft/sha.quarters"], apart := false, laid := [("bitloft/sha.quarters", laid_bitloft_sha_quarters)], narrowed := true }
def ShaDoneUptoSaid : Prop := shaDoneUptoRow.holds Tryd.pinned (OpenSpec.upto shaDoneSpec)

/-- 'bitloftlaw26.HeaderSeals', WHERE WHAT IT READS IS OF BULK AT MOST 1048576: true; the input reads as it did. -/
def headerSealsUptoRow : OpenClaim := { program := "ytbldecdipicddaadoor", sum := "3715a7e0f4eefee5a4939f482bcb4692bc28e341a93be348470f27dc620eac66", func := "bitloft/bitloftlaw26.HeaderSeals", spec := "headerSeals", named := ["bitloft/header.widths", "bitloft/sha.quarters"], apart := false, laid := [("bitloft/sha.quarters", laid_bitloft_sha_quarters), ("bitloft/header.widths", laid_bitloft_header_widths)], narrowed := true }
def HeaderSealsUptoSaid : Prop := headerSealsUptoRow.holds Tryd.pinned (OpenSpec.upto headerSealsSpec)

/-- 'bitloftlaw26.HeaderNames', WHERE WHAT IT READS IS OF BULK AT MOST 1048576: true; the input reads as it did. -/
def headerNamesUptoRow : OpenClaim := { program := "ytbldecdipicddaadoor", sum := "3715a7e0f4eefee5a4939f482bcb4692bc28e341a93be348470f27dc620eac66", func := "bitloft/bitloftlaw26.HeaderNames", spec := "headerNames", named := ["bitloft/header.widths", "bitloft/sha.quarters"], apart := false, laid := [("bitloft/sha.quarters", laid_bitloft_sha_quarters), ("bitloft/header.widths", laid_bitloft_header_widths)], narrowed := true }
def HeaderNamesUptoSaid : Prop := headerNamesUptoRow.holds Tryd.pinned (OpenSpec.upto headerNamesSpec)

/-- 'bitloftlaw26.HeaderSealed', WHERE WHAT IT READS IS OF BULK AT MOST 1048576: true; the input reads as it did. -/
def headerSealedUptoRow : OpenClaim := { program := "ytbldecdipicddaadoor", sum := "3715a7e0f4eefee5a4939f482bcb4692bc28e341a93be348470f27dc620eac66", func := "bitloft/bitloftlaw26.HeaderSealed", spec := "headerSealed", named := ["bitloft/header.widths", "bitloft/sha.quarters"], apart := false, laid := [("bitloft/sha.quarters", laid_bitloft_sha_quarters), ("bitloft/header.widths", laid_bitloft_header_widths)], narrowed := true }
def HeaderSealedUptoSaid : Prop := headerSealedUptoRow.holds Tryd.pinned (OpenSpec.upto headerSealedSpec)

/-- 'bitloftlaw41.TreeProofs', WHERE WHAT IT READS IS OF BULK AT MOST 1048576: true; the input reads as it did. -/
def treeProofsUptoRow : OpenClaim := { program := "ytbldecdipicddaadoor", sum := "3715a7e0f4eefee5a4939f482bcb4692bc28e341a93be348470f27dc620eac66", func := "bitloft/bitloftlaw41.TreeProofs", spec := "treeProofs", recurses := true, named := ["bitloft/sha.quarters"], apart := false, laid := [("bitloft/sha.quarters", laid_bitloft_sha_quarters)], narrowed := true }
def TreeProofsUptoSaid : Prop := treeProofsUptoRow.holds Tryd.pinned (OpenSpec.upto treeProofsSpec)

/-- 'bitloftlaw41.TreeRoots', WHERE WHAT IT READS IS OF BULK AT MOST 1048576: true; the input reads as it did. -/
def treeRootsUptoRow : OpenClaim := { program := "ytbldecdipicddaadoor", sum := "3715a7e0f4eefee5a4939f482bcb4692bc28e341a93be348470f27dc620eac66", func := "bitloft/bitloftlaw41.TreeRoots", spec := "treeRoots", unfollowed := true, recurses := true, named := ["bitloft/sha.quarters"], apart := false, laid := [("bitloft/sha.quarters", laid_bitloft_sha_quarters)], narrowed := true }
def TreeRootsUptoSaid : Prop := treeRootsUptoRow.holds Tryd.pinned (OpenSpec.upto treeRootsSpec)

/-- 'bitloftlaw41.TreeHalves', WHERE WHAT IT READS IS OF BULK AT MOST 1048576: true; the input reads as it did. -/
def treeHalvesUptoRow : OpenClaim := { program := "ytbldecdipicddaadoor", sum := "3715a7e0f4eefee5a4939f482bcb4692bc28e341a93be348470f27dc620eac66", func := "bitloft/bitloftlaw41.TreeHalves", spec := "treeHalves", unfollowed := true, recurses := true, named := ["bitloft/sha.quarters"], apart := false, laid := [("bitloft/sha.quarters", laid_bitloft_sha_quarters)], narrowed := true }
def TreeHalvesUptoSaid : Prop := treeHalvesUptoRow.holds Tryd.pinned (OpenSpec.upto treeHalvesSpec)

/-- 'bitloftlaw41.TreeNames', WHERE WHAT IT READS IS OF BULK AT MOST 1048576: true; the input reads as it did. -/
def treeNamesUptoRow : OpenClaim := { program := "ytbldecdipicddaadoor", sum := "3715a7e0f4eefee5a4939f482bcb4692bc28e341a93be348470f27dc620eac66", func := "bitloft/bitloftlaw41.TreeNames", spec := "treeNames", unfollowed := true, recurses := true, named := ["bitloft/sha.quarters"], apart := false, laid := [("bitloft/sha.quarters", laid_bitloft_sha_quarters)], narrowed := true }
def TreeNamesUptoSaid : Prop := treeNamesUptoRow.holds Tryd.pinned (OpenSpec.upto treeNamesSpec)

end Rows
end Go.Proofs.YtbldecdipicddaaDoor
