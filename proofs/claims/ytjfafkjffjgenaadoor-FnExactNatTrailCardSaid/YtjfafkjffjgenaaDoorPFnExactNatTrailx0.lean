-- Written by our own driver (wip/hand/hprint.py) over the seat's translation.
import Derived.Test.YtjfafkjffjgenaaDoorProg
import Derived.Test.YtjfafkjffjgenaaDoorHand
import Derived.Shelf.Abstract
import Derived.Lib.SliceRun
import Derived.Lib.Strings
import Derived.Lib.Slices
import Derived.Lib.Small
import Derived.Lib.Walk
import Derived.Lib.BitFns
import Derived.Below
import Derived.Deep.Draws
import Derived.Deep.AppendLies
import Derived.Maps.AppendAt
import Derived.OwnWalk
import Derived.Laws.BytesArg
import Derived.Laws.MakeOwn
import Derived.Laws.OwnMore
import Derived.Deep.OwnRows
import Derived.Tactics
import Derived.Lib.ConvBytes
import Derived.Laws.Slices
import Derived.WalkKit
import Derived.KernelRfl
import Derived.RowKit3
import Derived.Deep.LoopGhost
import Derived.Deep.QuietTactic
import Derived.BigQuiet
import Derived.WideLaws
import Derived.Deep.DeepCutAuto
import Derived.Deep.CutBlock
import Derived.Deep.RegionHeld3
import Derived.Laws.Rows
import Derived.Lib.AppendStr
import Derived.ArgAppend
import Derived.Laws.IdiomCopy
import Derived.OrdersHeld
import Derived.Laws.BitsLemmas
import Derived.RowKit
import Derived.Test.YtjfafkjffjgenaaDoorWWords
import Derived.Test.YtjfafkjffjgenaaDoorWLast
import Derived.Test.YtjfafkjffjgenaaDoorWTab
import Derived.Test.YtjfafkjffjgenaaDoorWFour
import Derived.Test.YtjfafkjffjgenaaDoorWQPut
import Derived.Test.YtjfafkjffjgenaaDoorWApart
import Derived.Test.YtjfafkjffjgenaaDoorWArr
import Derived.Test.YtjfafkjffjgenaaDoorWZeros
import Derived.Test.YtjfafkjffjgenaaDoorWFoot
import Derived.Test.YtjfafkjffjgenaaDoorWKept
import Derived.Test.YtjfafkjffjgenaaDoorWShare
import Derived.Test.YtjfafkjffjgenaaDoorWN
import Derived.Test.YtjfafkjffjgenaaDoorWFootNe
import Derived.Test.YtjfafkjffjgenaaDoorWAt
import Derived.Test.YtjfafkjffjgenaaDoorWEqStruct
import Derived.Test.YtjfafkjffjgenaaDoorWRepsOne
import Derived.Test.YtjfafkjffjgenaaDoorWInv
import Derived.Test.YtjfafkjffjgenaaDoorWInvWords
import Derived.Test.YtjfafkjffjgenaaDoorWGuard
import Derived.Test.YtjfafkjffjgenaaDoorWNEv
import Derived.Test.YtjfafkjffjgenaaDoorWMore
namespace Go.Proofs.YtjfafkjffjgenaaDoor.PFnExactNatTrail
open Go.RowKit Go.Proofs.YtjfafkjffjgenaaDoorW.PrintWords Go.Proofs.YtjfafkjffjgenaaDoorW.PrintLast Go.Proofs.YtjfafkjffjgenaaDoorW.PrintMore
attribute [local go_sem] max2_int min2_int max_two min_two max_three min_three max_four min_four   -- for this text's walks alone
set_option linter.unusedVariables false
set_option linter.unusedSimpArgs false



def errW : Option Int → Value
  | none => .nilIface
  | some c => .iface 0 (.int .i64 c)
theorem errW_none : errW none = .nilIface := rfl
theorem errW_some (c : Int) : errW (some c) = .iface 0 (.int .i64 c) := rfl

theorem info3 : (Tryd.prog.info? 3).map (fun i => (i.zero, i.size, i.bytes)) = some (some (.int .i64 0), 1, 8) := by kernel_rfl
-- the values' own types

end Go.Proofs.YtjfafkjffjgenaaDoor.PFnExactNatTrail
