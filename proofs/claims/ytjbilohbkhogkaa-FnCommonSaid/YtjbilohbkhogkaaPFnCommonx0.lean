/- The machine's side of FnCommon, written by wip/tools/hyb.py of this repo: each Go function as a plain Lean function, and the proof that the call comes to just its answer. No condition. -/
import Derived.Test.YtjbilohbkhogkaaProg
import Derived.Below
import Derived.Deep.Draws
import Derived.Deep.AppendLies
import Derived.Maps.AppendAt
import Derived.OwnWalk
import Derived.Laws.BytesArg
import Derived.Laws.MakeOwn
import Derived.Laws.OwnMore
import Derived.Deep.OwnRows
import Derived.Tactics
import Derived.Lib.ConvBytes
import Derived.Laws.Slices
import Derived.WalkKit
import Derived.KernelRfl
import Derived.RowKit3
import Derived.Deep.LoopGhost
import Derived.Deep.QuietTactic
import Derived.BigQuiet
import Derived.WideLaws
import Derived.Deep.DeepCutAuto
import Derived.Deep.CutBlock
import Derived.Deep.RegionHeld3
import Derived.Laws.Rows
import Derived.Lib.AppendStr
import Derived.ArgAppend
import Derived.Laws.IdiomCopy
import Derived.OrdersHeld
import Derived.Laws.BitsLemmas
import Derived.RowKit
import Derived.Test.YtjbilohbkhogkaaWWords
import Derived.Test.YtjbilohbkhogkaaWLast
import Derived.Test.YtjbilohbkhogkaaWTab
import Derived.Test.YtjbilohbkhogkaaWFour
import Derived.Test.YtjbilohbkhogkaaWQPut
import Derived.Test.YtjbilohbkhogkaaWApart
import Derived.Test.YtjbilohbkhogkaaWArr
import Derived.Test.YtjbilohbkhogkaaWZeros
import Derived.Test.YtjbilohbkhogkaaWFoot
import Derived.Test.YtjbilohbkhogkaaWKept
import Derived.Test.YtjbilohbkhogkaaWShare
import Derived.Test.YtjbilohbkhogkaaWN
import Derived.Test.YtjbilohbkhogkaaWFootNe
import Derived.Test.YtjbilohbkhogkaaWAt
import Derived.Test.YtjbilohbkhogkaaWEqStruct
import Derived.Test.YtjbilohbkhogkaaWRepsOne
import Derived.Test.YtjbilohbkhogkaaWInv
import Derived.Test.YtjbilohbkhogkaaWInvWords
import Derived.Test.YtjbilohbkhogkaaWGuard
import Derived.Test.YtjbilohbkhogkaaWNEv
import Derived.Test.YtjbilohbkhogkaaWMore
namespace Go.Proofs.Ytjbilohbkhogkaa.PFnCommon
open Go.RowKit Go.Proofs.YtjbilohbkhogkaaW.PrintWords Go.Proofs.YtjbilohbkhogkaaW.PrintLast Go.Proofs.YtjbilohbkhogkaaW.PrintMore
attribute [local go_sem] max2_int min2_int max_two min_two max_three min_three max_four min_four   -- for this text's walks alone
set_option linter.unusedVariables false
set_option linter.unusedSimpArgs false



def errW : Option Int → Value
  | none => .nilIface
  | some c => .iface 0 (.int .i64 c)
theorem errW_none : errW none = .nilIface := rfl
theorem errW_some (c : Int) : errW (some c) = .iface 0 (.int .i64 c) := rfl

theorem info5 : (Try.prog.info? 5).map (fun i => (i.zero, i.size, i.bytes)) = some (some (.int .u8 0), 1, 1) := by kernel_rfl
-- the values' own types

end Go.Proofs.Ytjbilohbkhogkaa.PFnCommon
