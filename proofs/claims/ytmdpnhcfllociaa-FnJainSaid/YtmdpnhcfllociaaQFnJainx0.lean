-- Made by this session's program (wip/tools/myprint.py) out of the translation; Lean checks it.
import Derived.Test.YtmdpnhcfllociaaProg
import Derived.Below
import Derived.Deep.Draws
import Derived.Deep.AppendLies
import Derived.Maps.AppendAt
import Derived.OwnWalk
import Derived.Laws.BytesArg
import Derived.Laws.MakeOwn
import Derived.Laws.OwnMore
import Derived.Deep.OwnRows
import Derived.Tactics
import Derived.Lib.ConvBytes
import Derived.Laws.Slices
import Derived.WalkKit
import Derived.KernelRfl
import Derived.RowKit3
import Derived.Deep.LoopGhost
import Derived.Deep.QuietTactic
import Derived.BigQuiet
import Derived.WideLaws
import Derived.Deep.DeepCutAuto
import Derived.Deep.CutBlock
import Derived.Deep.RegionHeld3
import Derived.Laws.Rows
import Derived.Lib.AppendStr
import Derived.ArgAppend
import Derived.Laws.IdiomCopy
import Derived.OrdersHeld
import Derived.Laws.BitsLemmas
import Derived.RowKit
import Derived.Test.YtmdpnhcfllociaaWWords
import Derived.Test.YtmdpnhcfllociaaWLast
import Derived.Test.YtmdpnhcfllociaaWTab
import Derived.Test.YtmdpnhcfllociaaWFour
import Derived.Test.YtmdpnhcfllociaaWQPut
import Derived.Test.YtmdpnhcfllociaaWApart
import Derived.Test.YtmdpnhcfllociaaWArr
import Derived.Test.YtmdpnhcfllociaaWZeros
import Derived.Test.YtmdpnhcfllociaaWFoot
import Derived.Test.YtmdpnhcfllociaaWKept
import Derived.Test.YtmdpnhcfllociaaWShare
import Derived.Test.YtmdpnhcfllociaaWN
import Derived.Test.YtmdpnhcfllociaaWFootNe
import Derived.Test.YtmdpnhcfllociaaWAt
import Derived.Test.YtmdpnhcfllociaaWEqStruct
import Derived.Test.YtmdpnhcfllociaaWRepsOne
import Derived.Test.YtmdpnhcfllociaaWInv
import Derived.Test.YtmdpnhcfllociaaWInvWords
import Derived.Test.YtmdpnhcfllociaaWGuard
import Derived.Test.YtmdpnhcfllociaaWNEv
import Derived.Test.YtmdpnhcfllociaaWMore
namespace Go.Proofs.Ytmdpnhcfllociaa.QFnJain
open Go.RowKit Go.Proofs.YtmdpnhcfllociaaW.PrintWords Go.Proofs.YtmdpnhcfllociaaW.PrintLast Go.Proofs.YtmdpnhcfllociaaW.PrintMore
attribute [local go_sem] max2_int min2_int max_two min_two max_three min_three max_four min_four   -- for this text's walks alone
set_option linter.unusedVariables false
set_option linter.unusedSimpArgs false



def errW : Option Int → Value
  | none => .nilIface
  | some c => .iface 0 (.int .i64 c)
theorem errW_none : errW none = .nilIface := rfl
theorem errW_some (c : Int) : errW (some c) = .iface 0 (.int .i64 c) := rfl

theorem info3 : (Try.prog.info? 3).map (fun i => (i.zero, i.size, i.bytes)) = some (some (.int .i64 0), 1, 8) := by kernel_rfl
-- the values' own types

end Go.Proofs.Ytmdpnhcfllociaa.QFnJain
