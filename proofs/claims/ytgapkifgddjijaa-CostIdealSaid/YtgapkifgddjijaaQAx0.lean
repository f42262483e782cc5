-- Written by qprint.py (a program of this session) out of the translation's print. Not trusted: Lean checks it.
import Derived.Test.YtgapkifgddjijaaProg
import Derived.Below
import Derived.Deep.Draws
import Derived.Deep.AppendLies
import Derived.Maps.AppendAt
import Derived.OwnWalk
import Derived.Laws.BytesArg
import Derived.Laws.MakeOwn
import Derived.Laws.OwnMore
import Derived.Deep.OwnRows
import Derived.Tactics
import Derived.Lib.ConvBytes
import Derived.Laws.Slices
import Derived.WalkKit
import Derived.KernelRfl
import Derived.RowKit3
import Derived.Deep.LoopGhost
import Derived.Deep.QuietTactic
import Derived.BigQuiet
import Derived.WideLaws
import Derived.Deep.DeepCutAuto
import Derived.Deep.CutBlock
import Derived.Deep.RegionHeld3
import Derived.Laws.Rows
import Derived.Lib.AppendStr
import Derived.ArgAppend
import Derived.Laws.IdiomCopy
import Derived.OrdersHeld
import Derived.Laws.BitsLemmas
import Derived.RowKit
import Derived.Test.YtgapkifgddjijaaWWords
import Derived.Test.YtgapkifgddjijaaWLast
import Derived.Test.YtgapkifgddjijaaWTab
import Derived.Test.YtgapkifgddjijaaWFour
import Derived.Test.YtgapkifgddjijaaWQPut
import Derived.Test.YtgapkifgddjijaaWApart
import Derived.Test.YtgapkifgddjijaaWArr
import Derived.Test.YtgapkifgddjijaaWZeros
import Derived.Test.YtgapkifgddjijaaWFoot
import Derived.Test.YtgapkifgddjijaaWKept
import Derived.Test.YtgapkifgddjijaaWShare
import Derived.Test.YtgapkifgddjijaaWN
import Derived.Test.YtgapkifgddjijaaWFootNe
import Derived.Test.YtgapkifgddjijaaWAt
import Derived.Test.YtgapkifgddjijaaWEqStruct
import Derived.Test.YtgapkifgddjijaaWRepsOne
import Derived.Test.YtgapkifgddjijaaWInv
import Derived.Test.YtgapkifgddjijaaWInvWords
import Derived.Test.YtgapkifgddjijaaWGuard
import Derived.Test.YtgapkifgddjijaaWNEv
import Derived.Test.YtgapkifgddjijaaWMore
namespace Go.Proofs.Ytgapkifgddjijaa.QA
open Go.RowKit Go.Proofs.YtgapkifgddjijaaW.PrintWords Go.Proofs.YtgapkifgddjijaaW.PrintLast Go.Proofs.YtgapkifgddjijaaW.PrintMore
attribute [local go_sem] max2_int min2_int max_two min_two max_three min_three max_four min_four   -- for this text's walks alone
set_option linter.unusedVariables false
set_option linter.unusedSimpArgs false



def errW : Option Int → Value
  | none => .nilIface
  | some c => .iface 0 (.int .i64 c)
theorem errW_none : errW none = .nilIface := rfl
theorem errW_some (c : Int) : errW (some c) = .iface 0 (.int .i64 c) := rfl

-- the values' own types

end Go.Proofs.Ytgapkifgddjijaa.QA
