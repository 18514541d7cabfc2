-- Written by our own driver (wip/hand/hprint.py) over the seat's translation.
import Derived.Test.YtnodpgddmkmngaaProg
import Derived.Test.YtnodpgddmkmngaaHand
import Derived.Shelf.Abstract
import Derived.Lib.SliceRun
import Derived.Below
import Derived.Deep.Draws
import Derived.Deep.AppendLies
import Derived.Maps.AppendAt
import Derived.OwnWalk
import Derived.Laws.BytesArg
import Derived.Laws.MakeOwn
import Derived.Laws.OwnMore
import Derived.Deep.OwnRows
import Derived.Tactics
import Derived.Lib.ConvBytes
import Derived.Laws.Slices
import Derived.WalkKit
import Derived.KernelRfl
import Derived.RowKit3
import Derived.Deep.LoopGhost
import Derived.Deep.QuietTactic
import Derived.BigQuiet
import Derived.WideLaws
import Derived.Deep.DeepCutAuto
import Derived.Deep.CutBlock
import Derived.Deep.RegionHeld3
import Derived.Laws.Rows
import Derived.Lib.AppendStr
import Derived.ArgAppend
import Derived.Laws.IdiomCopy
import Derived.OrdersHeld
import Derived.Laws.BitsLemmas
import Derived.RowKit
import Derived.Test.YtnodpgddmkmngaaWWords
import Derived.Test.YtnodpgddmkmngaaWLast
import Derived.Test.YtnodpgddmkmngaaWTab
import Derived.Test.YtnodpgddmkmngaaWFour
import Derived.Test.YtnodpgddmkmngaaWQPut
import Derived.Test.YtnodpgddmkmngaaWApart
import Derived.Test.YtnodpgddmkmngaaWArr
import Derived.Test.YtnodpgddmkmngaaWZeros
import Derived.Test.YtnodpgddmkmngaaWFoot
import Derived.Test.YtnodpgddmkmngaaWKept
import Derived.Test.YtnodpgddmkmngaaWShare
import Derived.Test.YtnodpgddmkmngaaWN
import Derived.Test.YtnodpgddmkmngaaWFootNe
import Derived.Test.YtnodpgddmkmngaaWAt
import Derived.Test.YtnodpgddmkmngaaWEqStruct
import Derived.Test.YtnodpgddmkmngaaWRepsOne
import Derived.Test.YtnodpgddmkmngaaWInv
import Derived.Test.YtnodpgddmkmngaaWInvWords
import Derived.Test.YtnodpgddmkmngaaWGuard
import Derived.Test.YtnodpgddmkmngaaWNEv
import Derived.Test.YtnodpgddmkmngaaWMore
namespace Go.Proofs.Ytnodpgddmkmngaa.PFnExactNatBit
open Go.RowKit Go.Proofs.YtnodpgddmkmngaaW.PrintWords Go.Proofs.YtnodpgddmkmngaaW.PrintLast Go.Proofs.YtnodpgddmkmngaaW.PrintMore
attribute [local go_sem] max2_int min2_int max_two min_two max_three min_three max_four min_four   -- for this text's walks alone
set_option linter.unusedVariables false
set_option linter.unusedSimpArgs false



def errW : Option Int → Value
  | none => .nilIface
  | some c => .iface 0 (.int .i64 c)
theorem errW_none : errW none = .nilIface := rfl
theorem errW_some (c : Int) : errW (some c) = .iface 0 (.int .i64 c) := rfl

theorem info3 : (Try.prog.info? 3).map (fun i => (i.zero, i.size, i.bytes)) = some (some (.int .i64 0), 1, 8) := by kernel_rfl
-- the values' own types

end Go.Proofs.Ytnodpgddmkmngaa.PFnExactNatBit
