-- PRINTED by print.py (a twelfth state) out of the translation. Not trusted: Lean checks it.
import Derived.Test.YtpobladocccnmaaProg
import Derived.Below
import Derived.Deep.Draws
import Derived.Deep.AppendLies
import Derived.Maps.AppendAt
import Derived.OwnWalk
import Derived.Laws.BytesArg
import Derived.Laws.MakeOwn
import Derived.Laws.OwnMore
import Derived.Deep.OwnRows
import Derived.Tactics
import Derived.Lib.ConvBytes
import Derived.Laws.Slices
import Derived.WalkKit
import Derived.KernelRfl
import Derived.RowKit3
import Derived.Deep.LoopGhost
import Derived.Deep.QuietTactic
import Derived.BigQuiet
import Derived.WideLaws
import Derived.Deep.DeepCutAuto
import Derived.Deep.CutBlock
import Derived.Deep.RegionHeld3
import Derived.Laws.Rows
import Derived.Lib.AppendStr
import Derived.ArgAppend
import Derived.Laws.IdiomCopy
import Derived.OrdersHeld
import Derived.Laws.BitsLemmas
import Derived.RowKit
import Derived.Test.YtpobladocccnmaaWWords
import Derived.Test.YtpobladocccnmaaWLast
import Derived.Test.YtpobladocccnmaaWTab
import Derived.Test.YtpobladocccnmaaWFour
import Derived.Test.YtpobladocccnmaaWQPut
import Derived.Test.YtpobladocccnmaaWApart
import Derived.Test.YtpobladocccnmaaWArr
import Derived.Test.YtpobladocccnmaaWZeros
import Derived.Test.YtpobladocccnmaaWFoot
import Derived.Test.YtpobladocccnmaaWKept
import Derived.Test.YtpobladocccnmaaWShare
import Derived.Test.YtpobladocccnmaaWN
import Derived.Test.YtpobladocccnmaaWFootNe
import Derived.Test.YtpobladocccnmaaWAt
import Derived.Test.YtpobladocccnmaaWEqStruct
import Derived.Test.YtpobladocccnmaaWRepsOne
import Derived.Test.YtpobladocccnmaaWInv
import Derived.Test.YtpobladocccnmaaWInvWords
import Derived.Test.YtpobladocccnmaaWGuard
import Derived.Test.YtpobladocccnmaaWNEv
import Derived.Test.YtpobladocccnmaaWMore
namespace Go.Proofs.Ytpobladocccnmaa.PBase
open Go.RowKit Go.Proofs.YtpobladocccnmaaW.PrintWords Go.Proofs.YtpobladocccnmaaW.PrintLast Go.Proofs.YtpobladocccnmaaW.PrintMore
attribute [local go_sem] max2_int min2_int max_two min_two max_three min_three max_four min_four   -- for this text's walks alone
set_option linter.unusedVariables false
set_option linter.unusedSimpArgs false



def errW : Option Int → Value
  | none => .nilIface
  | some c => .iface 0 (.int .i64 c)
theorem errW_none : errW none = .nilIface := rfl
theorem errW_some (c : Int) : errW (some c) = .iface 0 (.int .i64 c) := rfl

-- the values' own types

end Go.Proofs.Ytpobladocccnmaa.PBase
