/- The machine's side of FnExactDictPack, written by wip/tools/hyb.py of this repo: each Go function as a plain Lean function, and the proof that the call comes to just its answer. No condition. -/
import Derived.Test.YtgiljoeekpfpmaaPFnExactDictPackx0
import Derived.Test.YtgiljoeekpfpmaaPFnExactDictPackx1
import Derived.Test.YtgiljoeekpfpmaaPFnExactDictPackx2
import Derived.Test.YtgiljoeekpfpmaaPFnExactDictPackx3
import Derived.Test.YtgiljoeekpfpmaaPFnExactDictPackx4
import Derived.Test.YtgiljoeekpfpmaaPFnExactDictPackx5
import Derived.Test.YtgiljoeekpfpmaaPFnExactDictPackx6
import Derived.Test.YtgiljoeekpfpmaaPFnExactDictPackx7
import Derived.Test.YtgiljoeekpfpmaaPFnExactDictPackx8
import Derived.Test.YtgiljoeekpfpmaaPFnExactDictPackx9
import Derived.Test.YtgiljoeekpfpmaaPFnExactDictPackx10
import Derived.Test.YtgiljoeekpfpmaaPFnExactDictPackx11
import Derived.Test.YtgiljoeekpfpmaaPFnExactDictPackx12
import Derived.Test.YtgiljoeekpfpmaaPFnExactDictPackx13
import Derived.Test.YtgiljoeekpfpmaaPFnExactDictPackx14
namespace Go.Proofs.Ytgiljoeekpfpmaa.PFnExactDictPack
open Go.RowKit Go.Proofs.YtgiljoeekpfpmaaW.PrintWords Go.Proofs.YtgiljoeekpfpmaaW.PrintLast Go.Proofs.YtgiljoeekpfpmaaW.PrintMore Go.Proofs.YtgiljoeekpfpmaaW.PrintMore2
attribute [local go_sem] max2_int min2_int max_two min_two max_three min_three max_four min_four   -- for this text's walks alone
set_option linter.unusedVariables false
set_option linter.unusedSimpArgs false

end Go.Proofs.Ytgiljoeekpfpmaa.PFnExactDictPack
