-- Written by wip/drive.py (a program of this repo over the kit's print): contracts of the walk. Not trusted: Lean checks it.
import Derived.Test.YtagghjljbedfdaaProg
import Derived.Below
import Derived.Deep.Draws
import Derived.Deep.AppendLies
import Derived.Maps.AppendAt
import Derived.OwnWalk
import Derived.Laws.BytesArg
import Derived.Laws.MakeOwn
import Derived.Laws.OwnMore
import Derived.Deep.OwnRows
import Derived.Tactics
import Derived.Lib.ConvBytes
import Derived.Laws.Slices
import Derived.WalkKit
import Derived.KernelRfl
import Derived.RowKit3
import Derived.Deep.LoopGhost
import Derived.Deep.QuietTactic
import Derived.BigQuiet
import Derived.WideLaws
import Derived.Deep.DeepCutAuto
import Derived.Deep.CutBlock
import Derived.Deep.RegionHeld3
import Derived.Laws.Rows
import Derived.Lib.AppendStr
import Derived.ArgAppend
import Derived.Laws.IdiomCopy
import Derived.OrdersHeld
import Derived.Laws.BitsLemmas
import Derived.RowKit
import Derived.Test.YtagghjljbedfdaaWWords
import Derived.Test.YtagghjljbedfdaaWLast
import Derived.Test.YtagghjljbedfdaaWTab
import Derived.Test.YtagghjljbedfdaaWFour
import Derived.Test.YtagghjljbedfdaaWQPut
import Derived.Test.YtagghjljbedfdaaWApart
import Derived.Test.YtagghjljbedfdaaWArr
import Derived.Test.YtagghjljbedfdaaWZeros
import Derived.Test.YtagghjljbedfdaaWFoot
import Derived.Test.YtagghjljbedfdaaWKept
import Derived.Test.YtagghjljbedfdaaWShare
import Derived.Test.YtagghjljbedfdaaWN
import Derived.Test.YtagghjljbedfdaaWFootNe
import Derived.Test.YtagghjljbedfdaaWAt
import Derived.Test.YtagghjljbedfdaaWEqStruct
import Derived.Test.YtagghjljbedfdaaWRepsOne
import Derived.Test.YtagghjljbedfdaaWInv
import Derived.Test.YtagghjljbedfdaaWInvWords
import Derived.Test.YtagghjljbedfdaaWGuard
import Derived.Test.YtagghjljbedfdaaWNEv
import Derived.Test.YtagghjljbedfdaaWMore
namespace Go.Proofs.Ytagghjljbedfdaa.Q
open Go.RowKit Go.Proofs.YtagghjljbedfdaaW.PrintWords Go.Proofs.YtagghjljbedfdaaW.PrintLast Go.Proofs.YtagghjljbedfdaaW.PrintMore
attribute [local go_sem] max2_int min2_int max_two min_two max_three min_three max_four min_four   -- for this text's walks alone
set_option linter.unusedVariables false
set_option linter.unusedSimpArgs false



def errW : Option Int → Value
  | none => .nilIface
  | some c => .iface 0 (.int .i64 c)
theorem errW_none : errW none = .nilIface := rfl
theorem errW_some (c : Int) : errW (some c) = .iface 0 (.int .i64 c) := rfl

theorem info3 : (Try.prog.info? 3).map (fun i => (i.zero, i.size, i.bytes)) = some (some (.int .i64 0), 1, 8) := by kernel_rfl
-- the values' own types


end Go.Proofs.Ytagghjljbedfdaa.Q
