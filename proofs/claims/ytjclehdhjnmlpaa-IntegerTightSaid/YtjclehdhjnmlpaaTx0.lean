/- Contracts of functions that the laws reach, written by program (printx.py): each call returns what its plain Lean function computes, where that has a value; no other condition. -/
import Derived.Test.YtjclehdhjnmlpaaProg
import Derived.Below
import Derived.Deep.Draws
import Derived.Deep.AppendLies
import Derived.Maps.AppendAt
import Derived.OwnWalk
import Derived.Laws.BytesArg
import Derived.Laws.MakeOwn
import Derived.Laws.OwnMore
import Derived.Deep.OwnRows
import Derived.Tactics
import Derived.Lib.ConvBytes
import Derived.Laws.Slices
import Derived.WalkKit
import Derived.KernelRfl
import Derived.RowKit3
import Derived.Deep.LoopGhost
import Derived.Deep.QuietTactic
import Derived.BigQuiet
import Derived.WideLaws
import Derived.Deep.DeepCutAuto
import Derived.Deep.CutBlock
import Derived.Deep.RegionHeld3
import Derived.Laws.Rows
import Derived.Lib.AppendStr
import Derived.ArgAppend
import Derived.Laws.IdiomCopy
import Derived.OrdersHeld
import Derived.Laws.BitsLemmas
import Derived.RowKit
import Derived.Test.YtjclehdhjnmlpaaGiven2
import Derived.Test.YtjclehdhjnmlpaaGiven3
import Derived.Test.YtjclehdhjnmlpaaGiven10
import Derived.Test.YtjclehdhjnmlpaaGiven8
import Derived.Test.YtjclehdhjnmlpaaWWords
import Derived.Test.YtjclehdhjnmlpaaWLast
import Derived.Test.YtjclehdhjnmlpaaWTab
import Derived.Test.YtjclehdhjnmlpaaWFour
import Derived.Test.YtjclehdhjnmlpaaWQPut
import Derived.Test.YtjclehdhjnmlpaaWApart
import Derived.Test.YtjclehdhjnmlpaaWArr
import Derived.Test.YtjclehdhjnmlpaaWZeros
import Derived.Test.YtjclehdhjnmlpaaWFoot
import Derived.Test.YtjclehdhjnmlpaaWKept
import Derived.Test.YtjclehdhjnmlpaaWShare
import Derived.Test.YtjclehdhjnmlpaaWN
import Derived.Test.YtjclehdhjnmlpaaWFootNe
import Derived.Test.YtjclehdhjnmlpaaWAt
import Derived.Test.YtjclehdhjnmlpaaWEqStruct
import Derived.Test.YtjclehdhjnmlpaaWRepsOne
import Derived.Test.YtjclehdhjnmlpaaWInv
import Derived.Test.YtjclehdhjnmlpaaWInvWords
import Derived.Test.YtjclehdhjnmlpaaWGuard
import Derived.Test.YtjclehdhjnmlpaaWNEv
import Derived.Test.YtjclehdhjnmlpaaWMore
namespace Go.Proofs.Ytjclehdhjnmlpaa.T
open Go.RowKit Go.Proofs.Ytjclehdhjnmlpaa.Given Go.Proofs.YtjclehdhjnmlpaaW.PrintWords Go.Proofs.YtjclehdhjnmlpaaW.PrintLast Go.Proofs.YtjclehdhjnmlpaaW.PrintMore
attribute [local go_sem] max2_int min2_int max_two min_two max_three min_three max_four min_four   -- for this text's walks alone
set_option linter.unusedVariables false
set_option linter.unusedSimpArgs false



def errW : Option Int → Value
  | none => .nilIface
  | some c => .iface 0 (.int .i64 c)
theorem errW_none : errW none = .nilIface := rfl
theorem errW_some (c : Int) : errW (some c) = .iface 0 (.int .i64 c) := rfl

theorem info3 : (Try.prog.info? 3).map (fun i => (i.zero, i.size, i.bytes)) = some (some (.int .i64 0), 1, 8) := by kernel_rfl
-- the values' own types

end Go.Proofs.Ytjclehdhjnmlpaa.T
