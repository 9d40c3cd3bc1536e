-- Written by print.py of the kit over this session's own stand-ins (mkprint.py of its wip/gen): not an official print; the functions proved by hand are named where they stand.
import Derived.Test.YtpoibafjialcdaaProg
import Derived.Below
import Derived.Deep.Draws
import Derived.Deep.AppendLies
import Derived.Maps.AppendAt
import Derived.OwnWalk
import Derived.Laws.BytesArg
import Derived.Laws.MakeOwn
import Derived.Laws.OwnMore
import Derived.Deep.OwnRows
import Derived.Tactics
import Derived.Lib.ConvBytes
import Derived.Laws.Slices
import Derived.WalkKit
import Derived.KernelRfl
import Derived.RowKit3
import Derived.Deep.LoopGhost
import Derived.Deep.QuietTactic
import Derived.BigQuiet
import Derived.WideLaws
import Derived.Deep.DeepCutAuto
import Derived.Deep.CutBlock
import Derived.Deep.RegionHeld3
import Derived.Laws.Rows
import Derived.Lib.AppendStr
import Derived.ArgAppend
import Derived.Laws.IdiomCopy
import Derived.OrdersHeld
import Derived.Laws.BitsLemmas
import Derived.RowKit
import Derived.Test.YtpoibafjialcdaaWWords
import Derived.Test.YtpoibafjialcdaaWLast
import Derived.Test.YtpoibafjialcdaaWTab
import Derived.Test.YtpoibafjialcdaaWFour
import Derived.Test.YtpoibafjialcdaaWQPut
import Derived.Test.YtpoibafjialcdaaWApart
import Derived.Test.YtpoibafjialcdaaWArr
import Derived.Test.YtpoibafjialcdaaWZeros
import Derived.Test.YtpoibafjialcdaaWFoot
import Derived.Test.YtpoibafjialcdaaWKept
import Derived.Test.YtpoibafjialcdaaWShare
import Derived.Test.YtpoibafjialcdaaWN
import Derived.Test.YtpoibafjialcdaaWFootNe
import Derived.Test.YtpoibafjialcdaaWAt
import Derived.Test.YtpoibafjialcdaaWEqStruct
import Derived.Test.YtpoibafjialcdaaWRepsOne
import Derived.Test.YtpoibafjialcdaaWInv
import Derived.Test.YtpoibafjialcdaaWInvWords
import Derived.Test.YtpoibafjialcdaaWGuard
import Derived.Test.YtpoibafjialcdaaWNEv
import Derived.Test.YtpoibafjialcdaaWMore
namespace Go.Proofs.Ytpoibafjialcdaa.PFnExactArpBytes
open Go.RowKit Go.Proofs.YtpoibafjialcdaaW.PrintWords Go.Proofs.YtpoibafjialcdaaW.PrintLast Go.Proofs.YtpoibafjialcdaaW.PrintMore
attribute [local go_sem] max2_int min2_int max_two min_two max_three min_three max_four min_four   -- for this text's walks alone
set_option linter.unusedVariables false
set_option linter.unusedSimpArgs false



def errW : Option Int → Value
  | none => .nilIface
  | some c => .iface 0 (.int .i64 c)
theorem errW_none : errW none = .nilIface := rfl
theorem errW_some (c : Int) : errW (some c) = .iface 0 (.int .i64 c) := rfl

theorem info5 : (Try.prog.info? 5).map (fun i => (i.zero, i.size, i.bytes)) = some (some (.int .u8 0), 1, 1) := by kernel_rfl
-- the values' own types

end Go.Proofs.Ytpoibafjialcdaa.PFnExactArpBytes
