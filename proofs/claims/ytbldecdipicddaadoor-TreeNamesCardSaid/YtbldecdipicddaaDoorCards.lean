/-
  DERIVED. GIVEN WITH THE SEED: THE CARDS: each row of YtbldecdipicddaaDoorRows.lean that lists a variable, with what it lists TIED to the program's text (the seventh form; the later family's looks); each row that meets fmt, with fmt's text TOLD by the authors' own Lean function (tested against real Go, not proved from fmt's source: count such statements apart). THE CARD IS WHAT COUNTS. Prove the row's statement (the work); the ties are given (YtbldecdipicddaaDoorTie.lean); close each card by the builder's one call (the guide's Derived/Test/ToyasCard.lean, 'card_holds'). Laid BY PROGRAM, IN A SANDBOX (cutbox-door.mjs). By AI agents, Wed Nov 11 2026. No macro, syntax, notation, axiom, sorry.
-/
import Derived.Test.YtbldecdipicddaaDoorRows
import GoSem.ClaimSeven
namespace Go.Proofs.YtbldecdipicddaaDoor
namespace Rows

/-- THE TIED CARD OF 'bitloftlaw26.HeaderWrites'. -/
def headerWritesCard : Claim7 := { stood := { row := headerWritesRow, standIns := [], harness := (true, "ee1f8add39465800de6a24f0e79a22959aec2aa4a3113be1508eca2d5111adf7"), looks := false }, kinds := [], alts := [], laidByText := true, laidKinds := [.data], laidTests := true, laidLooks := .later }
def HeaderWritesCardSaid : Prop := Claim7.holds Tryd.pinned (.plain (OpenSpec.ofChange headerWritesSpec)) headerWritesCard

/-- THE TIED CARD OF 'bitloftlaw26.HeaderOne'. -/
def headerOneCard : Claim7 := { stood := { row := headerOneRow, standIns := [], harness := (true, "ee1f8add39465800de6a24f0e79a22959aec2aa4a3113be1508eca2d5111adf7"), looks := false }, kinds := [], alts := [], laidByText := true, laidKinds := [.data], laidTests := true, laidLooks := .later }
def HeaderOneCardSaid : Prop := Claim7.holds Tryd.pinned (.plain (OpenSpec.ofChange headerOneSpec)) headerOneCard

/-- THE TIED CARD OF 'bitloftlaw26.HeaderDiffer'. -/
def headerDifferCard : Claim7 := { stood := { row := headerDifferRow, standIns := [], harness := (true, "ee1f8add39465800de6a24f0e79a22959aec2aa4a3113be1508eca2d5111adf7"), looks := false }, kinds := [], alts := [], laidByText := true, laidKinds := [.data], laidTests := true, laidLooks := .later }
def HeaderDifferCardSaid : Prop := Claim7.holds Tryd.pinned (.plain (OpenSpec.ofChange headerDifferSpec)) headerDifferCard

/-- THE TIED CARD OF 'bitloftlaw01.ShaBlocks'. -/
def shaBlocksCard : Claim7 := { stood := { row := shaBlocksRow, standIns := [], harness := (true, "ee1f8add39465800de6a24f0e79a22959aec2aa4a3113be1508eca2d5111adf7"), looks := false }, kinds := [], alts := [], laidByText := true, laidKinds := [.data], laidTests := true, laidLooks := .later }
def ShaBlocksCardSaid : Prop := Claim7.holds Tryd.pinned (.plain (OpenSpec.ofChange shaBlocksSpec)) shaBlocksCard

/-- THE TIED CARD OF 'bitloftlaw41.TreeShows'. -/
def treeShowsCard : Claim7 := { stood := { row := treeShowsRow, standIns := [], harness := (true, "ee1f8add39465800de6a24f0e79a22959aec2aa4a3113be1508eca2d5111adf7"), looks := false }, kinds := [], alts := [], laidByText := true, laidKinds := [.data], laidTests := true, laidLooks := .later }
def TreeShowsCardSaid : Prop := Claim7.holds Tryd.pinned (.plain (OpenSpec.ofChange treeShowsSpec)) treeShowsCard

/-- THE TIED CARD OF 'bitloftlaw01.ShaSums'. -/
def shaSumsCard : Claim7 := { stood := { row := shaSumsRow, standIns := [], harness := (true, "ee1f8add39465800de6a24f0e79a22959aec2aa4a3113be1508eca2d5111adf7"), looks := false }, kinds := [], alts := [], laidByText := true, laidKinds := [.data], laidTests := true, laidLooks := .later }
def ShaSumsCardSaid : Prop := Claim7.holds Tryd.pinned (.plain (OpenSpec.ofChange shaSumsSpec)) shaSumsCard

/-- THE TIED CARD OF 'bitloftlaw41.TreeWays'. -/
def treeWaysCard : Claim7 := { stood := { row := treeWaysRow, standIns := [], harness := (true, "ee1f8add39465800de6a24f0e79a22959aec2aa4a3113be1508eca2d5111adf7"), looks := false }, kinds := [], alts := [], laidByText := true, laidKinds := [.data], laidTests := true, laidLooks := .later }
def TreeWaysCardSaid : Prop := Claim7.holds Tryd.pinned (.plain (OpenSpec.ofChange treeWaysSpec)) treeWaysCard

/-- THE TIED CARD OF 'bitloftlaw01.ShaPieces'. -/
def shaPiecesCard : Claim7 := { stood := { row := shaPiecesRow, standIns := [], harness := (true, "ee1f8add39465800de6a24f0e79a22959aec2aa4a3113be1508eca2d5111adf7"), looks := false }, kinds := [], alts := [], laidByText := true, laidKinds := [.data], laidTests := true, laidLooks := .later }
def ShaPiecesCardSaid : Prop := Claim7.holds Tryd.pinned (.plain (OpenSpec.ofChange shaPiecesSpec)) shaPiecesCard

/-- THE TIED CARD OF 'bitloftlaw01.ShaPads'. -/
def shaPadsCard : Claim7 := { stood := { row := shaPadsRow, standIns := [], harness := (true, "ee1f8add39465800de6a24f0e79a22959aec2aa4a3113be1508eca2d5111adf7"), looks := false }, kinds := [], alts := [], laidByText := true, laidKinds := [.data], laidTests := true, laidLooks := .later }
def ShaPadsCardSaid : Prop := Claim7.holds Tryd.pinned (.plain (OpenSpec.ofChange shaPadsSpec)) shaPadsCard

/-- THE TIED CARD OF 'bitloftlaw01.ShaNames'. -/
def shaNamesCard : Claim7 := { stood := { row := shaNamesRow, standIns := [], harness := (true, "ee1f8add39465800de6a24f0e79a22959aec2aa4a3113be1508eca2d5111adf7"), looks := false }, kinds := [], alts := [], laidByText := true, laidKinds := [.data], laidTests := true, laidLooks := .later }
def ShaNamesCardSaid : Prop := Claim7.holds Tryd.pinned (.plain (OpenSpec.ofChange shaNamesSpec)) shaNamesCard

/-- THE TIED CARD OF 'bitloftlaw01.ShaDone'. -/
def shaDoneCard : Claim7 := { stood := { row := shaDoneRow, standIns := [], harness := (true, "ee1f8add39465800de6a24f0e79a22959aec2aa4a3113be1508eca2d5111adf7"), looks := false }, kinds := [], alts := [], laidByText := true, laidKinds := [.data], laidTests := true, laidLooks := .later }
def ShaDoneCardSaid : Prop := Claim7.holds Tryd.pinned (.plain (OpenSpec.ofChange shaDoneSpec)) shaDoneCard

/-- THE TIED CARD OF 'bitloftlaw26.HeaderSeals'. -/
def headerSealsCard : Claim7 := { stood := { row := headerSealsRow, standIns := [], harness := (true, "ee1f8add39465800de6a24f0e79a22959aec2aa4a3113be1508eca2d5111adf7"), looks := false }, kinds := [], alts := [], laidByText := true, laidKinds := [.data, .data], laidTests := true, laidLooks := .later }
def HeaderSealsCardSaid : Prop := Claim7.holds Tryd.pinned (.plain (OpenSpec.ofChange headerSealsSpec)) headerSealsCard

/-- THE TIED CARD OF 'bitloftlaw26.HeaderNames'. -/
def headerNamesCard : Claim7 := { stood := { row := headerNamesRow, standIns := [], harness := (true, "ee1f8add39465800de6a24f0e79a22959aec2aa4a3113be1508eca2d5111adf7"), looks := false }, kinds := [], alts := [], laidByText := true, laidKinds := [.data, .data], laidTests := true, laidLooks := .later }
def HeaderNamesCardSaid : Prop := Claim7.holds Tryd.pinned (.plain (OpenSpec.ofChange headerNamesSpec)) headerNamesCard

/-- THE TIED CARD OF 'bitloftlaw26.HeaderSealed'. -/
def headerSealedCard : Claim7 := { stood := { row := headerSealedRow, standIns := [], harness := (true, "ee1f8add39465800de6a24f0e79a22959aec2aa4a3113be1508eca2d5111adf7"), looks := false }, kinds := [], alts := [], laidByText := true, laidKinds := [.data, .data], laidTests := true, laidLooks := .later }
def HeaderSealedCardSaid : Prop := Claim7.holds Tryd.pinned (.plain (OpenSpec.ofChange headerSealedSpec)) headerSealedCard

/-- THE TIED CARD OF 'bitloftlaw41.TreeProofs'. -/
def treeProofsCard : Claim7 := { stood := { row := treeProofsRow, standIns := [], harness := (true, "ee1f8add39465800de6a24f0e79a22959aec2aa4a3113be1508eca2d5111adf7"), looks := false }, kinds := [], alts := [], laidByText := true, laidKinds := [.data], laidTests := true, laidLooks := .later }
def TreeProofsCardSaid : Prop := Claim7.holds Tryd.pinned (.plain (OpenSpec.ofChange treeProofsSpec)) treeProofsCard

/-- THE TIED CARD OF 'bitloftlaw41.TreeRoots'. -/
def treeRootsCard : Claim7 := { stood := { row := treeRootsRow, standIns := [], harness := (true, "ee1f8add39465800de6a24f0e79a22959aec2aa4a3113be1508eca2d5111adf7"), looks := false }, kinds := [], alts := [], laidByText := true, laidKinds := [.data], laidTests := true, laidLooks := .later }
def TreeRootsCardSaid : Prop := Claim7.holds Tryd.pinned (.plain (OpenSpec.ofChange treeRootsSpec)) treeRootsCard

/-- THE TIED CARD OF 'bitloftlaw41.TreeHalves'. -/
def treeHalvesCard : Claim7 := { stood := { row := treeHalvesRow, standIns := [], harness := (true, "ee1f8add39465800de6a24f0e79a22959aec2aa4a3113be1508eca2d5111adf7"), looks := false }, kinds := [], alts := [], laidByText := true, laidKinds := [.data], laidTests := true, laidLooks := .later }
def TreeHalvesCardSaid : Prop := Claim7.holds Tryd.pinned (.plain (OpenSpec.ofChange treeHalvesSpec)) treeHalvesCard

/-- THE TIED CARD OF 'bitloftlaw41.TreeNames'. -/
def treeNamesCard : Claim7 := { stood := { row := treeNamesRow, standIns := [], harness := (true, "ee1f8add39465800de6a24f0e79a22959aec2aa4a3113be1508eca2d5111adf7"), looks := false }, kinds := [], alts := [], laidByText := true, laidKinds := [.data], laidTests := true, laidLooks := .later }
def TreeNamesCardSaid : Prop := Claim7.holds Tryd.pinned (.plain (OpenSpec.ofChange treeNamesSpec)) treeNamesCard

/-- THE SECOND FORM's CARD OF 'bitloftlaw26.HeaderWrites'. -/
def headerWritesUptoCard : Claim7 := { stood := { row := headerWritesUptoRow, standIns := [], harness := (true, "ee1f8add39465800de6a24f0e79a22959aec2aa4a3113be1508eca2d5111adf7"), looks := false }, kinds := [], alts := [], laidByText := true, laidKinds := [.data], laidTests := true, laidLooks := .later }
def HeaderWritesUptoCardSaid : Prop := Claim7.holds Tryd.pinned (.plain (OpenSpec.upto headerWritesSpec)) headerWritesUptoCard

/-- THE SECOND FORM's CARD OF 'bitloftlaw26.HeaderOne'. -/
def headerOneUptoCard : Claim7 := { stood := { row := headerOneUptoRow, standIns := [], harness := (true, "ee1f8add39465800de6a24f0e79a22959aec2aa4a3113be1508eca2d5111adf7"), looks := false }, kinds := [], alts := [], laidByText := true, laidKinds := [.data], laidTests := true, laidLooks := .later }
def HeaderOneUptoCardSaid : Prop := Claim7.holds Tryd.pinned (.plain (OpenSpec.upto headerOneSpec)) headerOneUptoCard

/-- THE SECOND FORM's CARD OF 'bitloftlaw26.HeaderDiffer'. -/
def headerDifferUptoCard : Claim7 := { stood := { row := headerDifferUptoRow, standIns := [], harness := (true, "ee1f8add39465800de6a24f0e79a22959aec2aa4a3113be1508eca2d5111adf7"), looks := false }, kinds := [], alts := [], laidByText := true, laidKinds := [.data], laidTests := true, laidLooks := .later }
def HeaderDifferUptoCardSaid : Prop := Claim7.holds Tryd.pinned (.plain (OpenSpec.upto headerDifferSpec)) headerDifferUptoCard

/-- THE SECOND FORM's CARD OF 'bitloftlaw01.ShaBlocks'. -/
def shaBlocksUptoCard : Claim7 := { stood := { row := shaBlocksUptoRow, standIns := [], harness := (true, "ee1f8add39465800de6a24f0e79a22959aec2aa4a3113be1508eca2d5111adf7"), looks := false }, kinds := [], alts := [], laidByText := true, laidKinds := [.data], laidTests := true, laidLooks := .later }
def ShaBlocksUptoCardSaid : Prop := Claim7.holds Tryd.pinned (.plain (OpenSpec.upto shaBlocksSpec)) shaBlocksUptoCard

/-- THE SECOND FORM's CARD OF 'bitloftlaw41.TreeShows'. -/
def treeShowsUptoCard : Claim7 := { stood := { row := treeShowsUptoRow, standIns := [], harness := (true, "ee1f8add39465800de6a24f0e79a22959aec2aa4a3113be1508eca2d5111adf7"), looks := false }, kinds := [], alts := [], laidByText := true, laidKinds := [.data], laidTests := true, laidLooks := .later }
def TreeShowsUptoCardSaid : Prop := Claim7.holds Tryd.pinned (.plain (OpenSpec.upto treeShowsSpec)) treeShowsUptoCard

/-- THE SECOND FORM's CARD OF 'bitloftlaw01.ShaSums'. -/
def shaSumsUptoCard : Claim7 := { stood := { row := shaSumsUptoRow, standIns := [], harness := (true, "ee1f8add39465800de6a24f0e79a22959aec2aa4a3113be1508eca2d5111adf7"), looks := false }, kinds := [], alts := [], laidByText := true, laidKinds := [.data], laidTests := true, laidLooks := .later }
def ShaSumsUptoCardSaid : Prop := Claim7.holds Tryd.pinned (.plain (OpenSpec.upto shaSumsSpec)) shaSumsUptoCard

/-- THE SECOND FORM's CARD OF 'bitloftlaw41.TreeWays'. -/
def treeWaysUptoCard : Claim7 := { stood := { row := treeWaysUptoRow, standIns := [], harness := (true, "ee1f8add39465800de6a24f0e79a22959aec2aa4a3113be1508eca2d5111adf7"), looks := false }, kinds := [], alts := [], laidByText := true, laidKinds := [.data], laidTests := true, laidLooks := .later }
def TreeWaysUptoCardSaid : Prop := Claim7.holds Tryd.pinned (.plain (OpenSpec.upto treeWaysSpec)) treeWaysUptoCard

/-- THE SECOND FORM's CARD OF 'bitloftlaw01.ShaPieces'. -/
def shaPiecesUptoCard : Claim7 := { stood := { row := shaPiecesUptoRow, standIns := [], harness := (true, "ee1f8add39465800de6a24f0e79a22959aec2aa4a3113be1508eca2d5111adf7"), looks := false }, kinds := [], alts := [], laidByText := true, laidKinds := [.data], laidTests := true, laidLooks := .later }
def ShaPiecesUptoCardSaid : Prop := Claim7.holds Tryd.pinned (.plain (OpenSpec.upto shaPiecesSpec)) shaPiecesUptoCard

/-- THE SECOND FORM's CARD OF 'bitloftlaw01.ShaPads'. -/
def shaPadsUptoCard : Claim7 := { stood := { row := shaPadsUptoRow, standIns := [], harness := (true, "ee1f8add39465800de6a24f0e79a22959aec2aa4a3113be1508eca2d5111adf7"), looks := false }, kinds := [], alts := [], laidByText := true, laidKinds := [.data], laidTests := true, laidLooks := .later }
def ShaPadsUptoCardSaid : Prop := Claim7.holds Tryd.pinned (.plain (OpenSpec.upto shaPadsSpec)) shaPadsUptoCard

/-- THE SECOND FORM's CARD OF 'bitloftlaw01.ShaNames'. -/
def shaNamesUptoCard : Claim7 := { stood := { row := shaNamesUptoRow, standIns := [], harness := (true, "ee1f8add39465800de6a24f0e79a22959aec2aa4a3113be1508eca2d5111adf7"), looks := false }, kinds := [], alts := [], laidByText := true, laidKinds := [.data], laidTests := true, laidLooks := .later }
def ShaNamesUptoCardSaid : Prop := Claim7.holds Tryd.pinned (.plain (OpenSpec.upto shaNamesSpec)) shaNamesUptoCard

/-- THE SECOND FORM's CARD OF 'bitloftlaw01.ShaDone'. -/
def shaDoneUptoCard : Claim7 := { stood := { row := shaDoneUptoRow, standIns := [], harness := (true, "ee1f8add39465800de6a24f0e79a22959aec2aa4a3113be1508eca2d5111adf7"), looks := false }, kinds := [], alts := [], laidByText := true, laidKinds := [.data], laidTests := true, laidLooks := .later }
def ShaDoneUptoCardSaid : Prop := Claim7.holds Tryd.pinned (.plain (OpenSpec.upto shaDoneSpec)) shaDoneUptoCard

/-- THE SECOND FORM's CARD OF 'bitloftlaw26.HeaderSeals'. -/
def headerSealsUptoCard : Claim7 := { stood := { row := headerSealsUptoRow, standIns := [], harness := (true, "ee1f8add39465800de6a24f0e79a22959aec2aa4a3113be1508eca2d5111adf7"), looks := false }, kinds := [], alts := [], laidByText := true, laidKinds := [.data, .data], laidTests := true, laidLooks := .later }
def HeaderSealsUptoCardSaid : Prop := Claim7.holds Tryd.pinned (.plain (OpenSpec.upto headerSealsSpec)) headerSealsUptoCard

/-- THE SECOND FORM's CARD OF 'bitloftlaw26.HeaderNames'. -/
def headerNamesUptoCard : Claim7 := { stood := { row := headerNamesUptoRow, standIns := [], harness := (true, "ee1f8add39465800de6a24f0e79a22959aec2aa4a3113be1508eca2d5111adf7"), looks := false }, kinds := [], alts := [], laidByText := true, laidKinds := [.data, .data], laidTests := true, laidLooks := .later }
def HeaderNamesUptoCardSaid : Prop := Claim7.holds Tryd.pinned (.plain (OpenSpec.upto headerNamesSpec)) headerNamesUptoCard

/-- THE SECOND FORM's CARD OF 'bitloftlaw26.HeaderSealed'. -/
def headerSealedUptoCard : Claim7 := { stood := { row := headerSealedUptoRow, standIns := [], harness := (true, "ee1f8add39465800de6a24f0e79a22959aec2aa4a3113be1508eca2d5111adf7"), looks := false }, kinds := [], alts := [], laidByText := true, laidKinds := [.data, .data], laidTests := true, laidLooks := .later }
def HeaderSealedUptoCardSaid : Prop := Claim7.holds Tryd.pinned (.plain (OpenSpec.upto headerSealedSpec)) headerSealedUptoCard

/-- THE SECOND FORM's CARD OF 'bitloftlaw41.TreeProofs'. -/
def treeProofsUptoCard : Claim7 := { stood := { row := treeProofsUptoRow, standIns := [], harness := (true, "ee1f8add39465800de6a24f0e79a22959aec2aa4a3113be1508eca2d5111adf7"), looks := false }, kinds := [], alts := [], laidByText := true, laidKinds := [.data], laidTests := true, laidLooks := .later }
def TreeProofsUptoCardSaid : Prop := Claim7.holds Tryd.pinned (.plain (OpenSpec.upto treeProofsSpec)) treeProofsUptoCard

/-- THE SECOND FORM's CARD OF 'bitloftlaw41.TreeRoots'. -/
def treeRootsUptoCard : Claim7 := { stood := { row := treeRootsUptoRow, standIns := [], harness := (true, "ee1f8add39465800de6a24f0e79a22959aec2aa4a3113be1508eca2d5111adf7"), looks := false }, kinds := [], alts := [], laidByText := true, laidKinds := [.data], laidTests := true, laidLooks := .later }
def TreeRootsUptoCardSaid : Prop := Claim7.holds Tryd.pinned (.plain (OpenSpec.upto treeRootsSpec)) treeRootsUptoCard

/-- THE SECOND FORM's CARD OF 'bitloftlaw41.TreeHalves'. -/
def treeHalvesUptoCard : Claim7 := { stood := { row := treeHalvesUptoRow, standIns := [], harness := (true, "ee1f8add39465800de6a24f0e79a22959aec2aa4a3113be1508eca2d5111adf7"), looks := false }, kinds := [], alts := [], laidByText := true, laidKinds := [.data], laidTests := true, laidLooks := .later }
def TreeHalvesUptoCardSaid : Prop := Claim7.holds Tryd.pinned (.plain (OpenSpec.upto treeHalvesSpec)) treeHalvesUptoCard

/-- THE SECOND FORM's CARD OF 'bitloftlaw41.TreeNames'. -/
def treeNamesUptoCard : Claim7 := { stood := { row := treeNamesUptoRow, standIns := [], harness := (true, "ee1f8add39465800de6a24f0e79a22959aec2aa4a3113be1508eca2d5111adf7"), looks := false }, kinds := [], alts := [], laidByText := true, laidKinds := [.data], laidTests := true, laidLooks := .later }
def TreeNamesUptoCardSaid : Prop := Claim7.holds Tryd.pinned (.plain (OpenSpec.upto treeNamesSpec)) treeNamesUptoCard
end Rows
end Go.Proofs.YtbldecdipicddaaDoor
