/- Functions of the program as Lean functions, each with its contract: the call comes to that answer. Told by wip/tools/handprint.py of this session. -/
import Derived.Test.YtdgnhmghniloiaaProg
import Derived.Below
import Derived.Deep.Draws
import Derived.Deep.AppendLies
import Derived.Maps.AppendAt
import Derived.OwnWalk
import Derived.Laws.BytesArg
import Derived.Laws.MakeOwn
import Derived.Laws.OwnMore
import Derived.Deep.OwnRows
import Derived.Tactics
import Derived.Lib.ConvBytes
import Derived.Laws.Slices
import Derived.WalkKit
import Derived.KernelRfl
import Derived.RowKit3
import Derived.Deep.LoopGhost
import Derived.Deep.QuietTactic
import Derived.BigQuiet
import Derived.WideLaws
import Derived.Deep.DeepCutAuto
import Derived.Deep.CutBlock
import Derived.Deep.RegionHeld3
import Derived.Laws.Rows
import Derived.Lib.AppendStr
import Derived.ArgAppend
import Derived.Laws.IdiomCopy
import Derived.OrdersHeld
import Derived.Laws.BitsLemmas
import Derived.RowKit
import Derived.Test.YtdgnhmghniloiaaWWords
import Derived.Test.YtdgnhmghniloiaaWLast
import Derived.Test.YtdgnhmghniloiaaWTab
import Derived.Test.YtdgnhmghniloiaaWFour
import Derived.Test.YtdgnhmghniloiaaWQPut
import Derived.Test.YtdgnhmghniloiaaWApart
import Derived.Test.YtdgnhmghniloiaaWArr
import Derived.Test.YtdgnhmghniloiaaWZeros
import Derived.Test.YtdgnhmghniloiaaWFoot
import Derived.Test.YtdgnhmghniloiaaWKept
import Derived.Test.YtdgnhmghniloiaaWShare
import Derived.Test.YtdgnhmghniloiaaWN
import Derived.Test.YtdgnhmghniloiaaWFootNe
import Derived.Test.YtdgnhmghniloiaaWAt
import Derived.Test.YtdgnhmghniloiaaWEqStruct
import Derived.Test.YtdgnhmghniloiaaWRepsOne
import Derived.Test.YtdgnhmghniloiaaWInv
import Derived.Test.YtdgnhmghniloiaaWInvWords
import Derived.Test.YtdgnhmghniloiaaWGuard
import Derived.Test.YtdgnhmghniloiaaWNEv
import Derived.Test.YtdgnhmghniloiaaWMore
namespace Go.Proofs.Ytdgnhmghniloiaa.Hp
open Go.RowKit Go.Proofs.YtdgnhmghniloiaaW.PrintWords Go.Proofs.YtdgnhmghniloiaaW.PrintLast Go.Proofs.YtdgnhmghniloiaaW.PrintMore
attribute [local go_sem] max2_int min2_int max_two min_two max_three min_three max_four min_four   -- for this text's walks alone
set_option linter.unusedVariables false
set_option linter.unusedSimpArgs false



def errW : Option Int → Value
  | none => .nilIface
  | some c => .iface 0 (.int .i64 c)
theorem errW_none : errW none = .nilIface := rfl
theorem errW_some (c : Int) : errW (some c) = .iface 0 (.int .i64 c) := rfl

-- the values' own types

end Go.Proofs.Ytdgnhmghniloiaa.Hp
