/- Written by drive.py (a program of this repo, over the kit's print): each Go function named here answers what the Lean function beside it answers, wherever that one answers, in every world that meets the stated premises. -/
import Derived.Test.YtagghjljbedfdaaDoorProg
import Derived.Below
import Derived.Deep.Draws
import Derived.Deep.AppendLies
import Derived.Maps.AppendAt
import Derived.OwnWalk
import Derived.Laws.BytesArg
import Derived.Laws.MakeOwn
import Derived.Laws.OwnMore
import Derived.Deep.OwnRows
import Derived.Tactics
import Derived.Lib.ConvBytes
import Derived.Laws.Slices
import Derived.WalkKit
import Derived.KernelRfl
import Derived.RowKit3
import Derived.Deep.LoopGhost
import Derived.Deep.QuietTactic
import Derived.BigQuiet
import Derived.WideLaws
import Derived.Deep.DeepCutAuto
import Derived.Deep.CutBlock
import Derived.Deep.RegionHeld3
import Derived.Laws.Rows
import Derived.Lib.AppendStr
import Derived.ArgAppend
import Derived.Laws.IdiomCopy
import Derived.OrdersHeld
import Derived.Laws.BitsLemmas
import Derived.RowKit
import Derived.Shelf.Spec.TrailingZeros
import Derived.WalkMore
import Derived.ScopeJumps
import Derived.Test.YtagghjljbedfdaaDoorWWords
import Derived.Test.YtagghjljbedfdaaDoorWLast
import Derived.Test.YtagghjljbedfdaaDoorWTab
import Derived.Test.YtagghjljbedfdaaDoorWFour
import Derived.Test.YtagghjljbedfdaaDoorWQPut
import Derived.Test.YtagghjljbedfdaaDoorWApart
import Derived.Test.YtagghjljbedfdaaDoorWArr
import Derived.Test.YtagghjljbedfdaaDoorWZeros
import Derived.Test.YtagghjljbedfdaaDoorWFoot
import Derived.Test.YtagghjljbedfdaaDoorWKept
import Derived.Test.YtagghjljbedfdaaDoorWShare
import Derived.Test.YtagghjljbedfdaaDoorWN
import Derived.Test.YtagghjljbedfdaaDoorWFootNe
import Derived.Test.YtagghjljbedfdaaDoorWAt
import Derived.Test.YtagghjljbedfdaaDoorWEqStruct
import Derived.Test.YtagghjljbedfdaaDoorWRepsOne
import Derived.Test.YtagghjljbedfdaaDoorWInv
import Derived.Test.YtagghjljbedfdaaDoorWInvWords
import Derived.Test.YtagghjljbedfdaaDoorWGuard
import Derived.Test.YtagghjljbedfdaaDoorWNEv
import Derived.Test.YtagghjljbedfdaaDoorWMore
namespace Go.Proofs.YtagghjljbedfdaaDoor.Q
open Go.RowKit Go.Proofs.YtagghjljbedfdaaDoorW.PrintWords Go.Proofs.YtagghjljbedfdaaDoorW.PrintLast Go.Proofs.YtagghjljbedfdaaDoorW.PrintMore
attribute [local go_sem] max2_int min2_int max_two min_two max_three min_three max_four min_four   -- for this text's walks alone
set_option linter.unusedVariables false
set_option linter.unusedSimpArgs false



def errW : Option Int → Value
  | none => .nilIface
  | some c => .iface 0 (.int .i64 c)
theorem errW_none : errW none = .nilIface := rfl
theorem errW_some (c : Int) : errW (some c) = .iface 0 (.int .i64 c) := rfl

theorem info3 : (Tryd.prog.info? 3).map (fun i => (i.zero, i.size, i.bytes)) = some (some (.int .i64 0), 1, 8) := by kernel_rfl
theorem info23 : (Tryd.prog.info? 23).map (fun i => (i.zero, i.size, i.bytes)) = some (some (.int .u64 0), 1, 8) := by kernel_rfl
-- the values' own types

theorem tab_below {g : Nat} {tab : List Nat} {w W : World} (h : TabAt g tab w) (hb : Below w.heap.size w W) : TabAt g tab W := fun j hj => pw_cell_below hb (h j hj)
end Go.Proofs.YtagghjljbedfdaaDoor.Q
