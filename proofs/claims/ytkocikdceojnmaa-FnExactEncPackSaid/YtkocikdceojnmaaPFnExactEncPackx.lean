/- The machine's side of FnExactEncPack, written by wip/tools/hyb.py of this repo: each Go function as a plain Lean function, and the proof that the call comes to just its answer. No condition. -/
import Derived.Test.YtkocikdceojnmaaPFnExactEncPackx0
import Derived.Test.YtkocikdceojnmaaPFnExactEncPackx1
import Derived.Test.YtkocikdceojnmaaPFnExactEncPackx2
import Derived.Test.YtkocikdceojnmaaPFnExactEncPackx3
import Derived.Test.YtkocikdceojnmaaPFnExactEncPackx4
import Derived.Test.YtkocikdceojnmaaPFnExactEncPackx5
import Derived.Test.YtkocikdceojnmaaPFnExactEncPackx6
import Derived.Test.YtkocikdceojnmaaPFnExactEncPackx7
import Derived.Test.YtkocikdceojnmaaPFnExactEncPackx8
import Derived.Test.YtkocikdceojnmaaPFnExactEncPackx9
import Derived.Test.YtkocikdceojnmaaPFnExactEncPackx10
import Derived.Test.YtkocikdceojnmaaPFnExactEncPackx11
import Derived.Test.YtkocikdceojnmaaPFnExactEncPackx12
import Derived.Test.YtkocikdceojnmaaPFnExactEncPackx13
import Derived.Test.YtkocikdceojnmaaPFnExactEncPackx14
import Derived.Test.YtkocikdceojnmaaPFnExactEncPackx15
import Derived.Test.YtkocikdceojnmaaPFnExactEncPackx16
namespace Go.Proofs.Ytkocikdceojnmaa.PFnExactEncPack
open Go.RowKit Go.Proofs.YtkocikdceojnmaaW.PrintWords Go.Proofs.YtkocikdceojnmaaW.PrintLast Go.Proofs.YtkocikdceojnmaaW.PrintMore Go.Proofs.YtkocikdceojnmaaW.PrintMore2
attribute [local go_sem] max2_int min2_int max_two min_two max_three min_three max_four min_four   -- for this text's walks alone
set_option linter.unusedVariables false
set_option linter.unusedSimpArgs false

end Go.Proofs.Ytkocikdceojnmaa.PFnExactEncPack
