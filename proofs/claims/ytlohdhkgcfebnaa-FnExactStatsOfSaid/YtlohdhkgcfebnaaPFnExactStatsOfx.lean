/- The machine's side of FnExactStatsOf, written by wip/tools/hyb.py of this repo: each Go function as a plain Lean function, and the proof that the call comes to just its answer. No condition. -/
import Derived.Test.YtlohdhkgcfebnaaPFnExactStatsOfx0
import Derived.Test.YtlohdhkgcfebnaaPFnExactStatsOfx1
import Derived.Test.YtlohdhkgcfebnaaPFnExactStatsOfx2
import Derived.Test.YtlohdhkgcfebnaaPFnExactStatsOfx3
import Derived.Test.YtlohdhkgcfebnaaPFnExactStatsOfx4
import Derived.Test.YtlohdhkgcfebnaaPFnExactStatsOfx5
import Derived.Test.YtlohdhkgcfebnaaPFnExactStatsOfx6
import Derived.Test.YtlohdhkgcfebnaaPFnExactStatsOfx7
import Derived.Test.YtlohdhkgcfebnaaPFnExactStatsOfx8
import Derived.Test.YtlohdhkgcfebnaaPFnExactStatsOfx9
namespace Go.Proofs.Ytlohdhkgcfebnaa.PFnExactStatsOf
open Go.RowKit Go.Proofs.YtlohdhkgcfebnaaW.PrintWords Go.Proofs.YtlohdhkgcfebnaaW.PrintLast Go.Proofs.YtlohdhkgcfebnaaW.PrintMore
attribute [local go_sem] max2_int min2_int max_two min_two max_three min_three max_four min_four   -- for this text's walks alone
set_option linter.unusedVariables false
set_option linter.unusedSimpArgs false

end Go.Proofs.Ytlohdhkgcfebnaa.PFnExactStatsOf
