/- The machine's side of FnExactStatsFrom, written by wip/tools/hyb.py of this repo: each Go function as a plain Lean function, and the proof that the call comes to just its answer. No condition. -/
import Derived.Test.YtgiljoeekpfpmaaPFnExactStatsFromx0
import Derived.Test.YtgiljoeekpfpmaaPFnExactStatsFromx1
import Derived.Test.YtgiljoeekpfpmaaPFnExactStatsFromx2
import Derived.Test.YtgiljoeekpfpmaaPFnExactStatsFromx3
import Derived.Test.YtgiljoeekpfpmaaPFnExactStatsFromx4
import Derived.Test.YtgiljoeekpfpmaaPFnExactStatsFromx5
import Derived.Test.YtgiljoeekpfpmaaPFnExactStatsFromx6
import Derived.Test.YtgiljoeekpfpmaaPFnExactStatsFromx7
import Derived.Test.YtgiljoeekpfpmaaPFnExactStatsFromx8
import Derived.Test.YtgiljoeekpfpmaaPFnExactStatsFromx9
import Derived.Test.YtgiljoeekpfpmaaPFnExactStatsFromx10
import Derived.Test.YtgiljoeekpfpmaaPFnExactStatsFromx11
import Derived.Test.YtgiljoeekpfpmaaPFnExactStatsFromx12
import Derived.Test.YtgiljoeekpfpmaaPFnExactStatsFromx13
import Derived.Test.YtgiljoeekpfpmaaPFnExactStatsFromx14
import Derived.Test.YtgiljoeekpfpmaaPFnExactStatsFromx15
namespace Go.Proofs.Ytgiljoeekpfpmaa.PFnExactStatsFrom
open Go.RowKit Go.Proofs.YtgiljoeekpfpmaaW.PrintWords Go.Proofs.YtgiljoeekpfpmaaW.PrintLast Go.Proofs.YtgiljoeekpfpmaaW.PrintMore Go.Proofs.YtgiljoeekpfpmaaW.PrintMore2
attribute [local go_sem] max2_int min2_int max_two min_two max_three min_three max_four min_four   -- for this text's walks alone
set_option linter.unusedVariables false
set_option linter.unusedSimpArgs false

end Go.Proofs.Ytgiljoeekpfpmaa.PFnExactStatsFrom
