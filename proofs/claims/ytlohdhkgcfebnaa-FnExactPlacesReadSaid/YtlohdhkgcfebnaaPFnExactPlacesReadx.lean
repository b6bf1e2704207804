/- The machine's side of FnExactPlacesRead, written by wip/tools/hyb.py of this repo: each Go function as a plain Lean function, and the proof that the call comes to just its answer. No condition. -/
import Derived.Test.YtlohdhkgcfebnaaPFnExactPlacesReadx0
import Derived.Test.YtlohdhkgcfebnaaPFnExactPlacesReadx1
import Derived.Test.YtlohdhkgcfebnaaPFnExactPlacesReadx2
import Derived.Test.YtlohdhkgcfebnaaPFnExactPlacesReadx3
import Derived.Test.YtlohdhkgcfebnaaPFnExactPlacesReadx4
import Derived.Test.YtlohdhkgcfebnaaPFnExactPlacesReadx5
import Derived.Test.YtlohdhkgcfebnaaPFnExactPlacesReadx6
import Derived.Test.YtlohdhkgcfebnaaPFnExactPlacesReadx7
namespace Go.Proofs.Ytlohdhkgcfebnaa.PFnExactPlacesRead
open Go.RowKit Go.Proofs.YtlohdhkgcfebnaaW.PrintWords Go.Proofs.YtlohdhkgcfebnaaW.PrintLast Go.Proofs.YtlohdhkgcfebnaaW.PrintMore
attribute [local go_sem] max2_int min2_int max_two min_two max_three min_three max_four min_four   -- for this text's walks alone
set_option linter.unusedVariables false
set_option linter.unusedSimpArgs false

end Go.Proofs.Ytlohdhkgcfebnaa.PFnExactPlacesRead
