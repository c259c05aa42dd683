/- Functions of the program as Lean functions, each with its contract: the call comes to that answer. Told by wip/tools/handprint.py of this session. -/
import Derived.Test.YtpkjdjhojbadhaaGreatDoorProg
import Derived.Below
import Derived.Deep.Draws
import Derived.Deep.AppendLies
import Derived.Maps.AppendAt
import Derived.OwnWalk
import Derived.Laws.BytesArg
import Derived.Laws.MakeOwn
import Derived.Laws.OwnMore
import Derived.Deep.OwnRows
import Derived.Tactics
import Derived.Lib.ConvBytes
import Derived.Laws.Slices
import Derived.WalkKit
import Derived.KernelRfl
import Derived.RowKit3
import Derived.Deep.LoopGhost
import Derived.Deep.QuietTactic
import Derived.BigQuiet
import Derived.WideLaws
import Derived.Deep.DeepCutAuto
import Derived.Deep.CutBlock
import Derived.Deep.RegionHeld3
import Derived.Laws.Rows
import Derived.Lib.AppendStr
import Derived.ArgAppend
import Derived.Laws.IdiomCopy
import Derived.OrdersHeld
import Derived.Laws.BitsLemmas
import Derived.RowKit
import Derived.Laws.EntriesVeiled
import Derived.MapKept
import Derived.Defers
import Derived.Recover
import Derived.Test.YtpkjdjhojbadhaaGreatDoorTWords
import Derived.Test.YtpkjdjhojbadhaaGreatDoorTLast
import Derived.Test.YtpkjdjhojbadhaaGreatDoorTTab
import Derived.Test.YtpkjdjhojbadhaaGreatDoorTApart
import Derived.Test.YtpkjdjhojbadhaaGreatDoorTFoot
import Derived.Test.YtpkjdjhojbadhaaGreatDoorTKept
import Derived.Test.YtpkjdjhojbadhaaGreatDoorTShare
import Derived.Test.YtpkjdjhojbadhaaGreatDoorTN
import Derived.Test.YtpkjdjhojbadhaaGreatDoorTEqStruct
import Derived.Test.YtpkjdjhojbadhaaGreatDoorTRepsOne
import Derived.Test.YtpkjdjhojbadhaaGreatDoorTInv
import Derived.Test.YtpkjdjhojbadhaaGreatDoorTMore
namespace Go.Proofs.YtpkjdjhojbadhaaGreatDoor.Hp
open Go.RowKit Go.Proofs.YtpkjdjhojbadhaaGreatDoorW.PrintWords Go.Proofs.YtpkjdjhojbadhaaGreatDoorW.PrintLast Go.Proofs.YtpkjdjhojbadhaaGreatDoorW.PrintMore
attribute [local go_sem] max2_int min2_int max_two min_two max_three min_three max_four min_four   -- for this text's walks alone
set_option linter.unusedVariables false
set_option linter.unusedSimpArgs false



def errW : Option Int → Value
  | none => .nilIface
  | some c => .iface 0 (.int .i64 c)
theorem errW_none : errW none = .nilIface := rfl
theorem errW_some (c : Int) : errW (some c) = .iface 0 (.int .i64 c) := rfl

theorem info3 : (Tryz.prog.info? 3).map (fun i => (i.zero, i.size, i.bytes)) = some (some (.int .i64 0), 1, 8) := by kernel_rfl
-- the values' own types

end Go.Proofs.YtpkjdjhojbadhaaGreatDoor.Hp
