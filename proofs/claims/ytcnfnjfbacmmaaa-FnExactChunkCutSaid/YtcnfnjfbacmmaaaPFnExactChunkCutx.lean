/- The machine's side of FnExactChunkCut, written by wip/tools/hyb.py of this repo: each Go function as a plain Lean function, and the proof that the call comes to just its answer. No condition. -/
import Derived.Test.YtcnfnjfbacmmaaaPFnExactChunkCutx0
import Derived.Test.YtcnfnjfbacmmaaaPFnExactChunkCutx1
import Derived.Test.YtcnfnjfbacmmaaaPFnExactChunkCutx2
import Derived.Test.YtcnfnjfbacmmaaaPFnExactChunkCutx3
import Derived.Test.YtcnfnjfbacmmaaaPFnExactChunkCutx4
namespace Go.Proofs.Ytcnfnjfbacmmaaa.PFnExactChunkCut
open Go.RowKit Go.Proofs.YtcnfnjfbacmmaaaW.PrintWords Go.Proofs.YtcnfnjfbacmmaaaW.PrintLast Go.Proofs.YtcnfnjfbacmmaaaW.PrintMore Go.Proofs.YtcnfnjfbacmmaaaW.PrintMore2
attribute [local go_sem] max2_int min2_int max_two min_two max_three min_three max_four min_four   -- for this text's walks alone
set_option linter.unusedVariables false
set_option linter.unusedSimpArgs false

end Go.Proofs.Ytcnfnjfbacmmaaa.PFnExactChunkCut
