/- The machine's side of FnCut, written by wip/tools/hyb.py of this repo: each Go function as a plain Lean function, and the proof that the call comes to just its answer. No condition. -/
import Derived.Test.YtbiobenhhnbbaaaPFnCutx0
import Derived.Test.YtbiobenhhnbbaaaPFnCutx1
import Derived.Test.YtbiobenhhnbbaaaPFnCutx2
import Derived.Test.YtbiobenhhnbbaaaPFnCutx3
import Derived.Test.YtbiobenhhnbbaaaPFnCutx4
import Derived.Test.YtbiobenhhnbbaaaPFnCutx5
import Derived.Test.YtbiobenhhnbbaaaPFnCutx6
import Derived.Test.YtbiobenhhnbbaaaPFnCutx7
import Derived.Test.YtbiobenhhnbbaaaPFnCutx8
import Derived.Test.YtbiobenhhnbbaaaPFnCutx9
import Derived.Test.YtbiobenhhnbbaaaPFnCutx10
namespace Go.Proofs.Ytbiobenhhnbbaaa.PFnCut
open Go.RowKit Go.Proofs.YtbiobenhhnbbaaaW.PrintWords Go.Proofs.YtbiobenhhnbbaaaW.PrintLast Go.Proofs.YtbiobenhhnbbaaaW.PrintMore Go.Proofs.YtbiobenhhnbbaaaW.PrintMore2
attribute [local go_sem] max2_int min2_int max_two min_two max_three min_three max_four min_four   -- for this text's walks alone
set_option linter.unusedVariables false
set_option linter.unusedSimpArgs false

end Go.Proofs.Ytbiobenhhnbbaaa.PFnCut
