/- Contracts of functions that the laws reach, written by program (printx.py): each call returns what its plain Lean function computes, where that has a value; no other condition. -/
import Derived.Test.YtjclehdhjnmlpaaDoorProg
import Derived.Below
import Derived.Deep.Draws
import Derived.Deep.AppendLies
import Derived.Maps.AppendAt
import Derived.OwnWalk
import Derived.Laws.BytesArg
import Derived.Laws.MakeOwn
import Derived.Laws.OwnMore
import Derived.Deep.OwnRows
import Derived.Tactics
import Derived.Lib.ConvBytes
import Derived.Laws.Slices
import Derived.WalkKit
import Derived.KernelRfl
import Derived.RowKit3
import Derived.Deep.LoopGhost
import Derived.Deep.QuietTactic
import Derived.BigQuiet
import Derived.WideLaws
import Derived.Deep.DeepCutAuto
import Derived.Deep.CutBlock
import Derived.Deep.RegionHeld3
import Derived.Laws.Rows
import Derived.Lib.AppendStr
import Derived.ArgAppend
import Derived.Laws.IdiomCopy
import Derived.OrdersHeld
import Derived.Laws.BitsLemmas
import Derived.RowKit
import Derived.Test.YtjclehdhjnmlpaaDoorPrinted
import Derived.Test.YtjclehdhjnmlpaaDoorWWords
import Derived.Test.YtjclehdhjnmlpaaDoorWLast
import Derived.Test.YtjclehdhjnmlpaaDoorWTab
import Derived.Test.YtjclehdhjnmlpaaDoorWFour
import Derived.Test.YtjclehdhjnmlpaaDoorWQPut
import Derived.Test.YtjclehdhjnmlpaaDoorWApart
import Derived.Test.YtjclehdhjnmlpaaDoorWArr
import Derived.Test.YtjclehdhjnmlpaaDoorWZeros
import Derived.Test.YtjclehdhjnmlpaaDoorWFoot
import Derived.Test.YtjclehdhjnmlpaaDoorWKept
import Derived.Test.YtjclehdhjnmlpaaDoorWShare
import Derived.Test.YtjclehdhjnmlpaaDoorWN
import Derived.Test.YtjclehdhjnmlpaaDoorWFootNe
import Derived.Test.YtjclehdhjnmlpaaDoorWAt
import Derived.Test.YtjclehdhjnmlpaaDoorWEqStruct
import Derived.Test.YtjclehdhjnmlpaaDoorWRepsOne
import Derived.Test.YtjclehdhjnmlpaaDoorWInv
import Derived.Test.YtjclehdhjnmlpaaDoorWInvWords
import Derived.Test.YtjclehdhjnmlpaaDoorWGuard
import Derived.Test.YtjclehdhjnmlpaaDoorWNEv
import Derived.Test.YtjclehdhjnmlpaaDoorWMore
namespace Go.Proofs.YtjclehdhjnmlpaaDoor.D
open Go.RowKit Go.Proofs.YtjclehdhjnmlpaaDoor.Given Go.Proofs.YtjclehdhjnmlpaaDoorW.PrintWords Go.Proofs.YtjclehdhjnmlpaaDoorW.PrintLast Go.Proofs.YtjclehdhjnmlpaaDoorW.PrintMore
attribute [local go_sem] max2_int min2_int max_two min_two max_three min_three max_four min_four   -- for this text's walks alone
set_option linter.unusedVariables false
set_option linter.unusedSimpArgs false



def errW : Option Int → Value
  | none => .nilIface
  | some c => .iface 0 (.int .i64 c)
theorem errW_none : errW none = .nilIface := rfl
theorem errW_some (c : Int) : errW (some c) = .iface 0 (.int .i64 c) := rfl

-- the values' own types

end Go.Proofs.YtjclehdhjnmlpaaDoor.D
